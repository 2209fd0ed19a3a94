/- The next number with exponents that stay numbers, as both tell it. -/
import Derived.Test.YtgohpemgjladeaaP0
import Derived.Test.YtgohpemgjladeaaMath
import Derived.Test.YtgohpemgjladeaaPspecPlainNext
import Derived.Test.YtgohpemgjladeaaPimplPlainNext
import Derived.Test.YtgohpemgjladeaaPimpldigits
import Derived.Test.YtgohpemgjladeaaPspecl1In
import Derived.Test.YtgohpemgjladeaaQG
namespace Go.Proofs.Ytgohpemgjladeaa.P
open OM Go.RowKit Go.Proofs.YtgohpemgjladeaaW.PrintWords Go.Proofs.YtgohpemgjladeaaW.PrintLast Go.Proofs.YtgohpemgjladeaaW.PrintMore
set_option linter.unusedVariables false

theorem pow_ne_nat : ∀ a : Fin 92, ∀ j : Fin 31, (a : Nat) ^ (j : Nat) ≠ 1000000001 := by decide +kernel
theorem pow_ne {a : Int} (h1 : 2 ≤ a) (h2 : a ≤ 91) (j : Nat) : a ^ j ≠ 1000000001 := by
  intro h
  have hj : j < 31 := by
    by_cases g : j < 31
    · exact g
    · have h3 := pow_mono (n := a) (by omega) (show 31 ≤ j by omega)
      have h4 : (2 : Int) ^ 31 ≤ a ^ 31 := pow_base (by omega) h1 31
      have : (2 : Int) ^ 31 = 2147483648 := by decide
      omega
  have := pow_ne_nat ⟨a.toNat, by omega⟩ ⟨j, hj⟩
  apply this
  show a.toNat ^ j = 1000000001
  have e : ((a.toNat ^ j : Nat) : Int) = a ^ j := by rw [Int.natCast_pow, Int.toNat_of_nonneg (by omega)]
  omega
theorem dval_mono {b c : Int} (hb : 0 ≤ b) (h : b ≤ c) : ∀ (l : List Int), (∀ d ∈ l, 0 ≤ d) → 0 ≤ dval b l ∧ dval b l ≤ dval c l := by
  intro l
  induction l with
  | nil => intro _; simp [dval]
  | cons d l ih =>
    intro hl
    obtain ⟨h1, h2⟩ := ih (fun x hx => hl x (by simp [hx]))
    have hd := hl d (by simp)
    have h3 : 0 ≤ b * dval b l := Int.mul_nonneg hb h1
    have h4 : b * dval b l ≤ c * dval c l := Int.mul_le_mul h h2 h1 (by omega)
    simp only [dval]
    omega
/-- the value for the next base is at most the square -/
theorem dval_sq {b : Int} (hb : 2 ≤ b) : ∀ (l : List Int), (∀ d ∈ l, 0 ≤ d) → dval (b + 1) l ≤ dval b l * dval b l := by
  intro l
  induction l with
  | nil => intro _; simp [dval]
  | cons d l ih =>
    intro hl
    have h1 := ih (fun x hx => hl x (by simp [hx]))
    have h0 := (dval_mono (b := b) (c := b) (by omega) (by omega) l (fun x hx => hl x (by simp [hx]))).1
    have hd := hl d (by simp)
    simp only [dval]
    generalize dval b l = m at h0 h1 ⊢
    generalize dval (b + 1) l = v at h1 ⊢
    have e1 : (b + 1) * v ≤ (b + 1) * (m * m) := Int.mul_le_mul_of_nonneg_left h1 (by omega)
    have e2 : (b + 1) * (m * m) ≤ (b * b) * (m * m) := by
      refine Int.mul_le_mul_of_nonneg_right ?_ (Int.mul_nonneg h0 h0)
      have : b * 2 ≤ b * b := Int.mul_le_mul_of_nonneg_left hb (by omega)
      omega
    have e3 : (b * b) * (m * m) = (b * m) * (b * m) := by ac_rfl
    have e4 : (d + b * m) * (d + b * m) = d * d + (d * (b * m) + (b * m) * d) + (b * m) * (b * m) := by
      rw [Int.add_mul, Int.mul_add, Int.mul_add]; omega
    have e5 : d ≤ d * d := by
      rcases Int.lt_or_le d 1 with g | g
      · have : d = 0 := by omega
        subst this; simp
      · have : d * 1 ≤ d * d := Int.mul_le_mul_of_nonneg_left g (by omega)
        omega
    have e6 : 0 ≤ d * (b * m) := Int.mul_nonneg hd (Int.mul_nonneg (by omega) h0)
    have e7 : 0 ≤ (b * m) * d := Int.mul_nonneg (Int.mul_nonneg (by omega) h0) hd
    omega
def fin (v : Int) : Int := if v - 1 > 1000000000 then -1 else v - 1
theorem fin_big {v : Int} (h : v - 1 > 1000000000) : fin v = -1 := by unfold fin; rw [if_pos h]

/-! #### the reference -/
theorem specNext_nil {b acc w : Int} (h0 : 0 ≤ acc) (h1 : acc ≤ 1000000001) : Tells (fun k => spec_PlainNext.l0 k 0 b acc w) (fin acc) := by
  refine Tells.step (fun k => by rw [spec_PlainNext.l0]) ?_
  refine Tells.neg (by omega) ?_
  unfold fin
  rw [wrap_id (by omega) (by omega)]
  by_cases h : acc - 1 > 1000000000
  · exact Tells.pos h (Tells.to (Tells.now _) (by rw [if_pos h]))
  · exact Tells.neg h (Tells.to (Tells.now _) (by rw [if_neg h]))
theorem top_pos {b : Int} (hb : 2 ≤ b) {l : List Int} (h : ∀ d ∈ l, 0 ≤ d ∧ d < b) (ht : ∀ l' d, l = l' ++ [d] → 1 ≤ d) (hne : l ≠ []) : 1 ≤ dval b l := by
  have hd : Digs b (dval b l) l := ⟨h, rfl, ht⟩
  have h1 := hd.len hb hne
  have := pow_pos (n := b) (by omega) (l.length - 1)
  omega
theorem specNext_l {b : Int} (hb : 2 ≤ b) (hb' : b ≤ 89) : ∀ (l : List Int) (acc w : Int) (j : Nat), l ≠ [] → (∀ d ∈ l, 0 ≤ d ∧ d < b) → (∀ l' d, l = l' ++ [d] → 1 ≤ d) → dval b l ≤ 1000000000 → 0 ≤ acc → acc ≤ 1000000001 → w = (b + 1) ^ j → acc + w * dval (b + 1) l ≤ 1000000000000000000 →
    Tells (fun k => spec_PlainNext.l0 k (dval b l) b acc w) (fin (acc + w * dval (b + 1) l)) := by
  intro l
  induction l with
  | nil => intro acc w j h; exact absurd rfl h
  | cons d l ih =>
    intro acc w j _ h1 h2 h3 h4 h5 h6 h7
    have hd := h1 d (by simp)
    have hl : ∀ x ∈ l, 0 ≤ x ∧ x < b := fun x hx => h1 x (by simp [hx])
    have htop : ∀ l' x, l = l' ++ [x] → 1 ≤ x := fun l' x hx => h2 (d :: l') x (by rw [hx]; rfl)
    have hpos := top_pos hb h1 h2 (by simp)
    have hw : 1 ≤ w := by rw [h6]; have := pow_pos (n := b + 1) (by omega) j; omega
    have hmm := dval_mono (b := b) (c := b + 1) (by omega) (by omega) l (fun x hx => (hl x hx).1)
    have hm0 : 0 ≤ dval b l := hmm.1
    have hv0 : 0 ≤ dval (b + 1) l := by omega
    have hdm : dval b (d :: l) = d + b * dval b l := rfl
    have hdv : dval (b + 1) (d :: l) = d + (b + 1) * dval (b + 1) l := rfl
    have hmod : dval b (d :: l) % b = d := by rw [hdm, Int.add_mul_emod_self_left, Int.emod_eq_of_lt hd.1 hd.2]
    have hdiv : dval b (d :: l) / b = dval b l := by rw [hdm, Int.add_mul_ediv_left _ _ (show b ≠ 0 by omega), Int.ediv_eq_zero_of_lt hd.1 hd.2]; omega
    have hle : dval b l ≤ dval b (d :: l) := by rw [← hdiv]; exact Int.ediv_le_self _ (by omega)
    have hexp : w * dval (b + 1) (d :: l) = w * d + w * (b + 1) * dval (b + 1) l := by rw [hdv, Int.mul_add, Int.mul_assoc]
    have hwd : 0 ≤ w * d := Int.mul_nonneg (by omega) hd.1
    have hwv : 0 ≤ w * (b + 1) * dval (b + 1) l := Int.mul_nonneg (Int.mul_nonneg (by omega) (by omega)) hv0
    -- the step, when it is not cut
    have go : (d = 0 ∨ w ≤ 1000000000) → Tells (fun k => spec_PlainNext.j2 k (dval b (d :: l)) b acc w false) (fin (acc + w * dval (b + 1) (d :: l))) := by
      intro _
      refine Tells.step (fun k => by rw [spec_PlainNext.j2]) ?_
      refine Tells.neg (by simp) ?_
      refine Tells.neg (by omega) ?_
      rw [tmod_emod (by omega), hmod, Int.mul_comm d w, wrap_id (i := w * d) (by omega) (by omega), wrap_id (i := acc + w * d) (by omega) (by omega)]
      by_cases hbig : acc + w * d > 1000000001
      · refine Tells.pos hbig ?_
        rw [fin_big (by omega)]; exact Tells.now _
      · refine Tells.neg hbig ?_
        rw [tdiv_ediv (by omega), hdiv, wrap_id (i := dval b l) (by omega) (by omega), wrap_id (i := b + 1) (by omega) (by omega)]
        by_cases hnil : l = []
        · subst hnil
          have e : acc + w * dval (b + 1) (d :: []) = acc + w * d := by rw [hexp]; simp [dval]
          rw [e]
          exact specNext_nil (by omega) (by omega)
        · have h8 := top_pos hb hl htop hnil
          have h9 : w * (b + 1) * 1 ≤ w * (b + 1) * dval (b + 1) l := Int.mul_le_mul_of_nonneg_left (by omega) (Int.mul_nonneg (by omega) (by omega))
          have h10 : 0 ≤ w * (b + 1) := Int.mul_nonneg (by omega) (by omega)
          rw [wrap_id (i := w * (b + 1)) (by omega) (by omega)]
          have := ih (acc + w * d) (w * (b + 1)) (j + 1) hnil hl htop (by omega) (by omega) (by omega) (by rw [h6, pow_step]) (by omega)
          refine Tells.to this ?_
          rw [hexp]; congr 1; omega
    refine Tells.step (fun k => by rw [spec_PlainNext.l0]) ?_
    refine Tells.pos (by omega) ?_
    refine Tells.neg (by omega) ?_
    rw [tmod_emod (by omega), hmod]
    by_cases hz : d > 0
    · refine Tells.pos hz ?_
      by_cases hw' : w > 1000000000
      · rw [decide_eq_true hw']
        refine Tells.step (fun k => by rw [spec_PlainNext.j2]) ?_
        refine Tells.pos rfl ?_
        have hne : w ≠ 1000000001 := by rw [h6]; exact pow_ne (by omega) (by omega) j
        have h8 : w * 1 ≤ w * d := Int.mul_le_mul_of_nonneg_left (by omega) (by omega)
        rw [fin_big (by omega)]; exact Tells.now _
      · rw [decide_eq_false hw']
        exact go (.inr (by omega))
    · refine Tells.neg hz ?_
      exact go (.inl (by omega))

/-! #### the program -/
theorem implNext_l {b : Int} (hb : 2 ≤ b) (hb' : b ≤ 89) : ∀ (m : Nat) (lo hi : List Int), lo.length = m → m ≤ 1000000000 → (∀ d ∈ lo ++ hi, 0 ≤ d) → dval (b + 1) (lo ++ hi) ≤ 1000000000000000000 →
    Tells (fun k => impl_PlainNext.l0 k b (dval (b + 1) hi) (lo ++ hi) ((m : Int) - 1)) (fin (dval (b + 1) (lo ++ hi))) := by
  intro m
  induction m with
  | zero =>
    intro lo hi h hm h1 h2
    have : lo = [] := List.eq_nil_of_length_eq_zero h
    subst this
    have h0 := (dval_mono (b := b + 1) (c := b + 1) (by omega) (by omega) _ h1).1
    simp only [List.nil_append] at h0 h2 ⊢
    refine Tells.step (fun k => by rw [impl_PlainNext.l0]) ?_
    refine Tells.neg (by simp) ?_
    rw [wrap_id (by omega) (by omega)]
    unfold fin
    by_cases h : dval (b + 1) hi - 1 > 1000000000
    · exact Tells.pos h (Tells.to (Tells.now _) (by rw [if_pos h]))
    · exact Tells.neg h (Tells.to (Tells.now _) (by rw [if_neg h]))
  | succ n ih =>
    intro lo hi h hm h1 h2
    rcases List.eq_nil_or_concat lo with h' | ⟨l, t, h'⟩
    · rw [h'] at h; simp at h
    · rw [List.concat_eq_append] at h'
      subst h'
      have hln : l.length = n := by simpa using h
      have hrd : rd ((l ++ [t]) ++ hi) ((n : Int) + 1 - 1) = t := by
        rw [List.append_assoc]; exact rd_mid l hi t (by omega)
      have e : (l ++ [t]) ++ hi = l ++ (t :: hi) := by simp
      rw [e] at h1 h2 hrd ⊢
      have h3 := dval_append (b + 1) l (t :: hi)
      have h4 := (dval_mono (b := b + 1) (c := b + 1) (by omega) (by omega) l (fun x hx => h1 x (by simp [hx]))).1
      have h5 := (dval_mono (b := b + 1) (c := b + 1) (by omega) (by omega) (t :: hi) (fun x hx => h1 x (List.mem_append_right l hx))).1
      have h6 := (dval_mono (b := b + 1) (c := b + 1) (by omega) (by omega) hi (fun x hx => h1 x (by simp [hx]))).1
      have ht := h1 t (by simp)
      have hp := pow_pos (n := b + 1) (by omega) l.length
      have h7 : 1 * dval (b + 1) (t :: hi) ≤ (b + 1) ^ l.length * dval (b + 1) (t :: hi) := Int.mul_le_mul_of_nonneg_right (by omega) h5
      have hdt : dval (b + 1) (t :: hi) = t + (b + 1) * dval (b + 1) hi := rfl
      have h8 : 0 ≤ (b + 1) * dval (b + 1) hi := Int.mul_nonneg (by omega) h6
      refine Tells.step (fun k => by rw [impl_PlainNext.l0]) ?_
      refine Tells.pos (by simp <;> omega) ?_
      refine Tells.pos (by simp <;> omega) ?_
      refine Tells.pos (by simp <;> omega) ?_
      rw [show (((n + 1 : Nat) : Int) - 1) = (n : Int) + 1 - 1 by simp, hrd, show (n : Int) + 1 - 1 = (n : Int) by omega]
      rw [wrap_id (i := b + 1) (by omega) (by omega), Int.mul_comm (dval (b + 1) hi) (b + 1), wrap_id (i := (b + 1) * dval (b + 1) hi) (by omega) (by omega), wrap_id (i := (b + 1) * dval (b + 1) hi + t) (by omega) (by omega), wrap_id (i := (n : Int) - 1) (by omega) (by omega)]
      have := ih l (t :: hi) hln (by omega) h1 h2
      rw [hdt, Int.add_comm t] at this
      exact this
/-! #### both -/
def InN (b n : Int) : Prop := 1 ≤ n ∧ n ≤ 1000000000 ∧ 2 ≤ b ∧ b ≤ 89
theorem specNext_no {a b : Int} (h : ¬ InN b a) : Tells (fun k => spec_PlainNext.f k a b) (-1) := by
  unfold InN at h
  have bad : Tells (fun k => spec_PlainNext.j0 k a b true) (-1) := by
    refine Tells.step (fun k => by rw [spec_PlainNext.j0]) ?_
    exact Tells.pos rfl (Tells.now _)
  refine Tells.bind (Tells.const (l1In_eq a 1 1000000000)) ?_
  by_cases h1 : 1 ≤ a ∧ a ≤ 1000000000
  · refine Tells.pos (decide_eq_true h1) ?_
    refine Tells.bind (Tells.const (l1In_eq b 2 89)) ?_
    rw [decide_eq_false (show ¬ (2 ≤ b ∧ b ≤ 89) by omega)]
    exact bad
  · exact Tells.neg (by simp; omega) bad
theorem implNext_no {a b : Int} (h : ¬ InN b a) : Tells (fun k => impl_PlainNext.f k a b) (-1) := by
  unfold InN at h
  have bad : Tells (fun k => impl_PlainNext.j0 k a b true) (-1) := by
    refine Tells.step (fun k => by rw [impl_PlainNext.j0]) ?_
    exact Tells.pos rfl (Tells.now _)
  by_cases h1 : a < 1
  · exact Tells.pos h1 bad
  · refine Tells.neg h1 ?_
    by_cases h2 : a > 1000000000
    · exact Tells.pos h2 bad
    · refine Tells.neg h2 ?_
      by_cases h3 : b < 2
      · exact Tells.pos h3 bad
      · refine Tells.neg h3 ?_
        rw [decide_eq_true (show b ≥ 90 by omega)]; exact bad
theorem both_PlainNext' {a b : Int} (h : InN b a) : ∃ ds, Digs b a ds ∧ Tells (fun k => spec_PlainNext.f k a b) (fin (dval (b + 1) ds)) ∧ Tells (fun k => impl_PlainNext.f k a b) (fin (dval (b + 1) ds)) := by
  obtain ⟨h1, h2, h3, h4⟩ := h
  obtain ⟨ds, hds, hlen, ht⟩ := digits_ev h3 (by omega) (by omega) h2
  have hsq : dval (b + 1) ds ≤ 1000000000000000000 := by
    have h5 := dval_sq h3 ds (fun d hd => (hds.lo d hd).1)
    rw [hds.val] at h5
    have h6 : a * a ≤ 1000000000 * 1000000000 := Int.mul_le_mul h2 h2 (by omega) (by omega)
    omega
  have hne : ds ≠ [] := by
    intro h
    have := hds.val
    rw [h] at this
    simp [dval] at this
    omega
  refine ⟨ds, hds, ?_, ?_⟩
  · refine Tells.bind (Tells.const (l1In_eq a 1 1000000000)) ?_
    refine Tells.pos (by simp; omega) ?_
    refine Tells.bind (Tells.const (l1In_eq b 2 89)) ?_
    rw [decide_eq_true (show 2 ≤ b ∧ b ≤ 89 by omega)]
    refine Tells.step (fun k => by rw [spec_PlainNext.j0]) ?_
    refine Tells.neg (by simp) ?_
    have := specNext_l h3 h4 ds 0 1 0 hne hds.lo hds.top (by rw [hds.val]; omega) (by omega) (by omega) (by simp) (by omega)
    rw [hds.val, Int.one_mul, Int.zero_add] at this
    exact this
  · refine Tells.neg (by omega) ?_
    refine Tells.neg (by omega) ?_
    refine Tells.neg (by omega) ?_
    rw [decide_eq_false (show ¬ b ≥ 90 by omega)]
    refine Tells.step (fun k => by rw [impl_PlainNext.j0]) ?_
    refine Tells.neg (by simp) ?_
    refine Tells.bind ht ?_
    rw [wrap_id (by omega) (by omega)]
    have := implNext_l h3 h4 ds.length ds [] rfl (by omega) (fun d hd => (hds.lo d (by simpa using hd)).1) (by rw [List.append_nil]; exact hsq)
    rw [List.append_nil] at this
    exact this
theorem both_PlainNext (a b : Int) : ∃ r, Tells (fun k => spec_PlainNext.f k a b) r ∧ Tells (fun k => impl_PlainNext.f k a b) r := by
  by_cases h : InN b a
  · obtain ⟨ds, _, g1, g2⟩ := both_PlainNext' h
    exact ⟨_, g1, g2⟩
  · exact ⟨-1, specNext_no h, implNext_no h⟩
end Go.Proofs.Ytgohpemgjladeaa.P
