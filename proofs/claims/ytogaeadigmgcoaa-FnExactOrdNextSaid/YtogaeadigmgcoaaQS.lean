/- The sum of two ordinals, as the program tells it. -/
import Derived.Test.YtogaeadigmgcoaaP0
import Derived.Test.YtogaeadigmgcoaaMath
import Derived.Test.YtogaeadigmgcoaaPimpladd
import Derived.Test.YtogaeadigmgcoaaPimplcompare
import Derived.Test.YtogaeadigmgcoaaQV
namespace Go.Proofs.Ytogaeadigmgcoaa.P
open OM Go.RowKit Go.Proofs.YtogaeadigmgcoaaW.PrintWords Go.Proofs.YtogaeadigmgcoaaW.PrintLast Go.Proofs.YtogaeadigmgcoaaW.PrintMore
set_option linter.unusedVariables false

/-- what is left has lesser exponents: nothing more is taken -/
theorem addB_l {d0 : Int} {f s : O} (hf : size f ≤ 1000000000) (hs : (s.length : Int) ≤ 1000000000) : ∀ (r p acc : O) (d : Int), NF r → below f r → size (p ++ r) ≤ 1000000000 → (acc.length : Int) ≤ 1000000000 →
    Tells (fun k => impl_add.l0 k (⟨d0, f⟩ :: s) acc (p ++ r) ((p ++ r).length : Int) (p.length : Int) d f) (acc ++ ⟨d, f⟩ :: s) := by
  intro r
  induction r with
  | nil =>
    intro p acc d h1 h2 h3 h4
    refine Tells.step (fun k => by rw [impl_add.l0]) ?_
    refine Tells.neg (by simp) ?_
    refine Tells.pos (by omega) ?_
    refine Tells.sbind ?_
    refine Tells.pos (by simp <;> omega) ?_
    refine Tells.sbind ?_
    refine Tells.pos (by simp <;> omega) ?_
    refine Tells.to (Tells.now _) ?_
    simp
  | cons t r ih =>
    intro p acc d h1 h2 h3 h4
    obtain ⟨c, e⟩ := t
    obtain ⟨g1, g2, g3, g4⟩ := NF_cons.1 h1
    have hlt : Lt e f := h2
    have hp := length_le_size p
    have z := h3
    rw [size_append, size_cons] at z
    have := size_pos r
    have := size_pos p
    have := size_pos e
    refine Tells.step (fun k => by rw [impl_add.l0]) ?_
    refine Tells.pos (by simp <;> omega) ?_
    refine Tells.pos (by omega) ?_
    refine Tells.pos (by simp <;> omega) ?_
    rw [rdT_mid p r ⟨c, e⟩ rfl]
    refine Tells.bind (compare_ev (by show size e ≤ _; omega) (by omega)) ?_
    rw [show cmp (Tm.mk c e).f1 f = -1 from hlt]
    refine Tells.neg (by omega) ?_
    refine Tells.neg (by omega) ?_
    rw [wrap_id (by omega) (by omega), snoc p]
    have := ih (p ++ [⟨c, e⟩]) acc d g3 (below.mono hlt g4) (by rw [← snoc]; exact h3) h4
    rw [show ((p ++ [(⟨c, e⟩ : Tm)]).length : Int) = (p.length : Int) + 1 by simp] at this
    exact this
theorem addA_l {d : Int} {f s : O} (hf : size f ≤ 1000000000) (hs : (s.length : Int) ≤ 1000000000) (hd : 0 ≤ d ∧ d ≤ 1000000000000000000) : ∀ (r p acc : O), NF r → most r ≤ 1000000000000000000 → size (p ++ r) ≤ 1000000000 → (acc.length : Int) + r.length ≤ 1000000000 →
    Tells (fun k => impl_add.l0 k (⟨d, f⟩ :: s) acc (p ++ r) ((p ++ r).length : Int) (p.length : Int) d f) (acc ++ add r (⟨d, f⟩ :: s)) := by
  intro r
  induction r with
  | nil =>
    intro p acc h1 h2 h3 h4
    rw [nil_add]
    exact addB_l hf hs [] p acc d h1 trivial h3 (by simp at h4; omega)
  | cons t r ih =>
    intro p acc h1 h2 h3 h4
    obtain ⟨c, e⟩ := t
    obtain ⟨g1, g2, g3, g4⟩ := NF_cons.1 h1
    have h2' := h2
    rw [most_cons] at h2'
    have hp := length_le_size p
    have z := h3
    rw [size_append, size_cons] at z
    have := size_pos r
    have := size_pos p
    have := size_pos e
    simp only [List.length_cons] at h4
    refine Tells.step (fun k => by rw [impl_add.l0]) ?_
    refine Tells.pos (by simp <;> omega) ?_
    refine Tells.pos (by omega) ?_
    refine Tells.pos (by simp <;> omega) ?_
    rw [rdT_mid p r ⟨c, e⟩ rfl]
    refine Tells.bind (compare_ev (by show size e ≤ _; omega) (by omega)) ?_
    have hl : ((p ++ [(⟨c, e⟩ : Tm)]).length : Int) = (p.length : Int) + 1 := by simp
    rcases cmp_range e f with hc | hc | hc
    · rw [show cmp (Tm.mk c e).f1 f = -1 from hc]
      refine Tells.neg (by omega) ?_
      refine Tells.neg (by omega) ?_
      rw [wrap_id (by omega) (by omega), snoc p, add_lt hc]
      have := addB_l (d0 := d) hf hs r (p ++ [⟨c, e⟩]) acc d g3 (below.mono hc g4) (by rw [← snoc]; exact h3) (by omega)
      rw [hl] at this
      exact this
    · rw [show cmp (Tm.mk c e).f1 f = 0 from hc]
      refine Tells.neg (by omega) ?_
      refine Tells.pos rfl ?_
      have he := cmp_eq hc
      subst he
      rw [wrap_id (i := (p.length : Int) + 1) (by omega) (by omega), wrap_id (by show _ ≤ d + c; omega) (by show d + c ≤ _; omega), snoc p, add_eq]
      have := addB_l (d0 := d) hf hs r (p ++ [⟨c, e⟩]) acc (d + c) g3 g4 (by rw [← snoc]; exact h3) (by omega)
      rw [hl, Int.add_comm d c] at this
      rw [Int.add_comm c d]
      rw [Int.add_comm c d] at this
      exact this
    · rw [show cmp (Tm.mk c e).f1 f = 1 from hc]
      refine Tells.pos (by omega) ?_
      refine Tells.pos (by omega) ?_
      refine Tells.sbind ?_
      refine Tells.neg (by omega) ?_
      rw [wrap_id (by omega) (by omega), snoc p, add_gt (gt_lt hc)]
      have := ih (p ++ [⟨c, e⟩]) (acc ++ [⟨c, e⟩]) g3 (by omega) (by rw [← snoc]; exact h3) (by simp <;> omega)
      rw [hl] at this
      refine Tells.to this ?_
      simp
theorem add_ev {x y : O} (hx : NF x) (mx : most x ≤ 1000000000000000000) (my : most y ≤ 1000000000000000000) (zx : size x ≤ 1000000000) (zy : size y ≤ 1000000000) (hy : NF y) : Tells (fun k => impl_add.f k x y) (add x y) := by
  cases y with
  | nil => rw [add_nil]; exact Tells.pos rfl (Tells.now _)
  | cons t s =>
    obtain ⟨d, f⟩ := t
    have hl := length_le_size x
    have hs := length_le_size s
    rw [size_cons] at zy
    rw [most_cons] at my
    have := size_pos f
    have := size_pos s
    have := (NF_cons.1 hy).1
    refine Tells.neg (by simp <;> omega) ?_
    refine Tells.pos (by simp <;> omega) ?_
    exact addA_l (by omega) (by omega) ⟨by omega, by omega⟩ x [] [] hx mx zx (by simp <;> omega)
theorem size_add (x y : O) : size (add x y) ≤ size x + size y := by
  induction x with
  | nil => rw [nil_add, size_nil]; omega
  | cons t r ih =>
    cases y with
    | nil => rw [add_nil, size_nil]; omega
    | cons u s =>
      obtain ⟨c, e⟩ := t
      obtain ⟨d, f⟩ := u
      have := size_pos r
      have := size_pos e
      rcases cmp_range e f with hc | hc | hc
      · rw [add_lt hc, size_cons, size_cons]; omega
      · have he := cmp_eq hc
        subst he
        rw [add_eq, size_cons, size_cons, size_cons]; omega
      · rw [add_gt (gt_lt hc), size_cons, size_cons c]; omega
end Go.Proofs.Ytogaeadigmgcoaa.P
