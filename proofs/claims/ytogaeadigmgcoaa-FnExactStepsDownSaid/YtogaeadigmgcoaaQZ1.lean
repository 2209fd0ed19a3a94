/- What the program's step comes to: the plain step. -/
import Derived.Test.YtogaeadigmgcoaaP0
import Derived.Test.YtogaeadigmgcoaaMath
import Derived.Test.YtogaeadigmgcoaaPimplstep
import Derived.Test.YtogaeadigmgcoaaQY1
namespace Go.Proofs.Ytogaeadigmgcoaa.P
open OM Go.RowKit Go.Proofs.YtogaeadigmgcoaaW.PrintWords Go.Proofs.YtogaeadigmgcoaaW.PrintLast Go.Proofs.YtogaeadigmgcoaaW.PrintMore
set_option linter.unusedVariables false

theorem sq_add {a b : Int} (ha : 1 ≤ a) (hb : 1 ≤ b) : a + b * b + 2 * b ≤ (a + b) * (a + b) := by
  rw [Int.add_mul, Int.mul_add, Int.mul_add]
  have h1 : a * 1 ≤ a * a := Int.mul_le_mul_of_nonneg_left ha (by omega)
  have h2 : 1 * b ≤ a * b := Int.mul_le_mul_of_nonneg_right ha (by omega)
  have h3 : b * 1 ≤ b * a := Int.mul_le_mul_of_nonneg_left ha (by omega)
  omega
theorem size_step (n : Int) : ∀ x : O, size (OM.step n x) ≤ size x * size x := by
  intro x
  induction x using indl with
  | h0 => rw [step_nil, size_nil]; omega
  | h1 c e ih =>
    have h1 := size_bef [⟨c, e⟩]
    have h2 := size_bef e
    have he := size_pos e
    have h3 : size [(⟨c, e⟩ : Tm)] = size e + 2 := by rw [size_cons, size_nil]; omega
    have h4 := sq_add (a := 2) (b := size e) (by omega) he
    have h5 : size (tail n e) ≤ 2 + size e * size e := by
      have h6 : size e * 1 ≤ size e * size e := Int.mul_le_mul_of_nonneg_left he (by omega)
      unfold tail
      split
      · rw [size_cons, size_nil]; omega
      · split
        · rw [size_cons, size_nil]; omega
        · rw [size_nil]; omega
    rw [step_s, size_append, h3]
    rw [Int.add_comm 2 (size e)] at h4
    omega
  | h2 t u r ih =>
    obtain ⟨c, e⟩ := t
    have he := size_pos e
    have hu := size_pos (u :: r)
    rw [step_cc, size_cons, size_cons c]
    have := sq_add (a := 1 + size e) (b := size (u :: r)) (by omega) hu
    omega
theorem step_two {n : Int} {p : O} {c : Int} {e : O} : OM.step n (p ++ [⟨c, e⟩]) = bef (p ++ [⟨c, e⟩]) ++ tail n e := by
  rw [step_append, step_s, bef_append, List.append_assoc]
theorem tail_two {n : Int} {e : O} (h : kind e = 2) : tail n e = [⟨1, OM.step n e⟩] := by unfold tail; rw [if_pos h]
theorem tail_one {n : Int} {e : O} (h : kind e = 1) (hn : 0 < n) : tail n e = [⟨n, bef e⟩] := by unfold tail; rw [if_neg (by omega), if_pos ⟨h, hn⟩]
theorem tail_none {n : Int} {e : O} (h : kind e ≠ 2) (hn : ¬ 0 < n) : tail n e = [] := by unfold tail; rw [if_neg h, if_neg (fun h => hn h.2)]
theorem size_last {p : O} {c : Int} {e : O} : size e + 1 ≤ size (p ++ [⟨c, e⟩]) := by
  have := size_pos p
  rw [size_append, size_cons, size_nil]; omega
theorem step_ev {n : Int} (hn : 0 ≤ n) : ∀ (d : Nat) (x : O), size x < d → NF x → size x ≤ 10000 → most x ≤ 1000000000000000000 → Tells (fun k => impl_step.f k x n) (OM.step n x) := by
  intro d
  induction d with
  | zero => intro x h; have := size_pos x; omega
  | succ d ih =>
    intro x h0 h hz hm
    refine Tells.step (fun k => by rw [impl_step.f]) ?_
    refine Tells.bind (Tells.const (implKind_eq (by omega))) ?_
    rcases List.eq_nil_or_concat x with h' | ⟨p, t, h'⟩
    · subst h'
      rw [step_nil]
      exact Tells.pos kind_nil (Tells.now _)
    · rw [List.concat_eq_append] at h'
      subst h'
      obtain ⟨c, e⟩ := t
      have hne : p ++ [(⟨c, e⟩ : Tm)] ≠ [] := by simp
      refine Tells.neg (fun hk => hne (kind_zero.1 hk)) ?_
      by_cases hk : kind (p ++ [⟨c, e⟩]) = 1
      · refine Tells.pos hk ?_
        rw [step_one hk]
        exact Tells.const (before_eq hne h (by omega) hm)
      · refine Tells.neg hk ?_
        obtain ⟨h1, h2⟩ := rdT_last p ⟨c, e⟩ (by omega)
        rw [h1, h2, step_two]
        have hl := length_le_size (p ++ [⟨c, e⟩])
        have hes := @size_last p c e
        have hem := @last_most p c e
        have heN := (NF_append_last h).2
        have hee : e ≠ [] := by
          intro he
          rw [kind_snoc, if_pos he] at hk
          exact hk rfl
        refine Tells.pos (by omega) ?_
        refine Tells.pos (by simp <;> omega) ?_
        refine Tells.bind (Tells.const (before_eq hne h (by omega) hm)) ?_
        refine Tells.bind (Tells.const (implKind_eq (by show size e ≤ _; omega))) ?_
        have hbl := length_le_size (bef (p ++ [⟨c, e⟩]))
        have hbz := size_bef (p ++ [⟨c, e⟩])
        have hke := kind_range e
        by_cases k2 : kind e = 2
        · rw [tail_two k2]
          refine Tells.pos k2 ?_
          refine Tells.bind (ih e (by omega) heN (by omega) (by omega)) ?_
          exact Tells.pos (by omega) (Tells.now _)
        · refine Tells.neg k2 ?_
          have k1 : kind e = 1 := by
            rcases hke with h | h | h
            · exact absurd (kind_zero.1 h) hee
            · exact h
            · exact absurd h k2
          by_cases hn0 : 0 < n
          · rw [tail_one k1 hn0]
            refine Tells.pos hn0 ?_
            refine Tells.bind (Tells.const (before_eq hee heN (by show size e ≤ _; omega) (by show most e ≤ _; omega))) ?_
            exact Tells.pos (by omega) (Tells.now _)
          · rw [tail_none k2 hn0, List.append_nil]
            exact Tells.neg hn0 (Tells.now _)
theorem implStep_ev {n : Int} {x : O} (hn : 0 ≤ n) (h : Vd x) : Tells (fun k => impl_step.f k x n) (OM.step n x) := by
  have h1 := h.1
  have h2 := h.2.1
  have h3 := h.2.2
  exact step_ev hn (size x).toNat.succ x (by have := size_pos x; omega) h1 (by omega) (by omega)
theorem size_stepV {n : Int} {x : O} (h : Vd x) : size (OM.step n x) ≤ 3600 := by
  have h1 := size_step n x
  have h2 := h.2.2
  have h3 := size_pos x
  have : size x * size x ≤ 60 * 60 := Int.mul_le_mul h2 h2 (by omega) (by omega)
  omega
end Go.Proofs.Ytogaeadigmgcoaa.P
