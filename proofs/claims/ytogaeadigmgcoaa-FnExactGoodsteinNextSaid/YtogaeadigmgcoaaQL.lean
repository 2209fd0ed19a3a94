/- The value of an ordinal with a number for w, as both tell it. -/
import Derived.Test.YtogaeadigmgcoaaP0
import Derived.Test.YtogaeadigmgcoaaMath
import Derived.Test.YtogaeadigmgcoaaPspecSlowValue
import Derived.Test.YtogaeadigmgcoaaPimplSlowValue
import Derived.Test.YtogaeadigmgcoaaPimplslow
import Derived.Test.YtogaeadigmgcoaaPspecl3Value
import Derived.Test.YtogaeadigmgcoaaPspecl3Raise
import Derived.Test.YtogaeadigmgcoaaPspecl1In
import Derived.Test.YtogaeadigmgcoaaQV
namespace Go.Proofs.Ytogaeadigmgcoaa.P
open OM Go.RowKit Go.Proofs.YtogaeadigmgcoaaW.PrintWords Go.Proofs.YtogaeadigmgcoaaW.PrintLast Go.Proofs.YtogaeadigmgcoaaW.PrintMore
set_option linter.unusedVariables false

/-- the value, or -1 if it is too great -/
def slowv (n : Int) (x : O) : Int := if val n x > 1000000000 then -1 else val n x
theorem pow_step' (b : Int) (j : Nat) : b ^ (j + 1) = b ^ j * b := Int.pow_succ b j
theorem pow_gt' {b : Int} (hb : 2 ≤ b) (j : Nat) : (j : Int) < b ^ j := by
  induction j with
  | zero => simp
  | succ j ih =>
    rw [pow_step']
    have h1 := pow_pos (n := b) (by omega) j
    have : b ^ j * 2 ≤ b ^ j * b := Int.mul_le_mul_of_nonneg_left hb (by omega)
    simp only [Int.natCast_succ]
    omega
theorem one_pow' (j : Nat) : (1 : Int) ^ j = 1 := by
  induction j with
  | zero => rfl
  | succ j ih => rw [pow_step', ih]; rfl
/-- the value for 1 is small -/
theorem val_one : ∀ {x : O}, NF x → most x ≤ 9999 → val 1 x ≤ 9999 * size x := by
  intro x
  induction x using ind with
  | h0 => intro _ _; rw [val_nil, size_nil]; omega
  | h1 c e r ihe ihr =>
    intro h1 h2
    obtain ⟨g1, g2, g3, g4⟩ := NF_cons.1 h1
    rw [most_cons] at h2
    have := ihr g3 (by omega)
    have := size_pos e
    rw [val_cons, size_cons, one_pow']
    omega
/-- n to the power of e, or -1 -/
def raisev (n e : Int) : Int := if n ^ e.toNat > 1000000000 then -1 else n ^ e.toNat
theorem specRaise_l {n : Int} (hn : 2 ≤ n) (hn' : n ≤ 99) (m : Nat) (hm : (m : Int) ≤ 1000000000) : ∀ (d i : Nat), i + d = m → n ^ i ≤ 1000000000 → Tells (fun k => spec_l3Raise.l0 k n (m : Int) (n ^ i) (i : Int)) (if n ^ m > 1000000000 then -1 else n ^ m) := by
  intro d
  induction d with
  | zero =>
    intro i h1 h2
    have : i = m := by omega
    subst this
    refine Tells.step (fun k => by rw [spec_l3Raise.l0]) ?_
    rw [if_neg (show ¬ n ^ i > 1000000000 by omega)]
    exact Tells.neg (by omega) (Tells.now _)
  | succ d ih =>
    intro i h1 h2
    have hp := pow_pos (n := n) (by omega) i
    have hs := pow_step' n i
    have h3 : n ^ i * n ≤ 1000000000 * 99 := Int.mul_le_mul h2 hn' (by omega) (by omega)
    have h4 := pow_pos (n := n) (by omega) (i + 1)
    refine Tells.step (fun k => by rw [spec_l3Raise.l0]) ?_
    refine Tells.pos (by omega) ?_
    rw [← hs, wrap_id (i := n ^ (i + 1)) (by omega) (by omega)]
    by_cases hb : n ^ (i + 1) > 1000000000
    · have := pow_mono (n := n) (by omega) (show i + 1 ≤ m by omega)
      refine Tells.pos hb ?_
      rw [if_pos (show n ^ m > 1000000000 by omega)]; exact Tells.now _
    · refine Tells.neg hb ?_
      refine Tells.neg (by omega) ?_
      rw [wrap_id (by omega) (by omega)]
      have := ih (i + 1) (by omega) (by omega)
      rw [show ((i + 1 : Nat) : Int) = (i : Int) + 1 by simp] at this
      exact this
theorem specRaise_ev {n e : Int} (hn : 1 ≤ n) (hn' : n ≤ 99) (he : 0 ≤ e) (he' : e ≤ 1000000000) : Tells (fun k => spec_l3Raise.f k n e) (raisev n e) := by
  unfold raisev
  by_cases h : n = 1
  · subst h
    rw [one_pow', if_neg (by omega)]
    refine Tells.step (g := fun k => spec_l3Raise.l0 k 1 e 1 0) (fun k => by rw [spec_l3Raise.l0]) ?_
    by_cases h0 : 0 < e
    · refine Tells.pos h0 ?_
      refine Tells.neg (by rw [wrap_id (by omega) (by omega)]; omega) ?_
      exact Tells.pos (by omega) (Tells.now _)
    · exact Tells.neg h0 (Tells.now _)
  · have := specRaise_l (n := n) (by omega) hn' e.toNat (by omega) e.toNat 0 (by omega) (by simp)
    rw [Int.toNat_of_nonneg he, Int.pow_zero] at this
    exact this
/-- an exponent's value that is too great makes the value too great -/
theorem slow_big {n c : Int} {e r : O} (hn : 1 ≤ n) (h : NF (⟨c, e⟩ :: r)) (hb : val n e > 1000000000) (h1 : n = 1 → val n e ≤ 1000000000) : val n (⟨c, e⟩ :: r) > 1000000000 := by
  obtain ⟨g1, g2, g3, g4⟩ := NF_cons.1 h
  have hr := val_nonneg hn g3
  have h2 : 2 ≤ n := by
    rcases Int.lt_or_le n 2 with g | g
    · have := h1 (by omega); omega
    · exact g
  have h3 := pow_gt' h2 (val n e).toNat
  have h4 := mul_pow_pos hn g1 (val n e).toNat
  rw [val_cons]
  omega
theorem specValue_l {n : Int} (hn : 1 ≤ n) (hn' : n ≤ 99) : ∀ (r p : O) (acc : Int), NF r → most r ≤ 9999 → size r ≤ 60 → size (p ++ r) ≤ 60 → 0 ≤ acc → acc ≤ 1000000000 →
    Tells (fun k => spec_l3Value.l0 k n (cs (p ++ r)) (es (p ++ r)) acc (p.length : Int)) (if acc + val n r > 1000000000 then -1 else acc + val n r) := by
  intro r
  induction r using ind with
  | h0 =>
    intro p acc h1 h2 h3 h4 h5 h6
    refine Tells.step (fun k => by rw [spec_l3Value.l0]) ?_
    refine Tells.neg (by rw [cs_length]; simp) ?_
    refine Tells.to (Tells.now _) ?_
    rw [val_nil, if_neg (by omega)]; omega
  | h1 c e r ihe ihr =>
    intro p acc h1 h2 h3 h4 h5 h6
    obtain ⟨g1, g2, g3, g4⟩ := NF_cons.1 h1
    have hp := length_le_size (p ++ ⟨c, e⟩ :: r)
    simp only [List.length_append, List.length_cons] at hp
    have m2 := h2
    have z3 := h3
    rw [most_cons] at m2
    rw [size_cons] at z3
    have := size_pos e
    have := size_pos r
    have hve := val_nonneg hn g2
    have hvr := val_nonneg hn g3
    have hone : n = 1 → val n e ≤ 1000000000 := by
      intro h
      rw [h]
      have := val_one g2 (by omega)
      omega
    refine Tells.step (fun k => by rw [spec_l3Value.l0]) ?_
    refine Tells.pos (by rw [cs_length]; simp; omega) ?_
    refine Tells.pos (by omega) ?_
    refine Tells.pos (by rw [es_length]; simp; omega) ?_
    have he : rd_L1 (es (p ++ ⟨c, e⟩ :: r)) (p.length : Int) = row e := by rw [es_append, es_cons]; exact rdL_mid _ _ _ (by rw [es_length])
    have hc : rd (cs (p ++ ⟨c, e⟩ :: r)) (p.length : Int) = c := by rw [cs_append, cs_cons]; exact rd_mid _ _ _ (by rw [cs_length])
    rw [he, hc]
    have hf : Tells (fun k => spec_l3Value.f k (row e) n) (slowv n e) := by
      refine Tells.step (fun k => by rw [spec_l3Value.f]) ?_
      refine Tells.bind (terms_ev (by omega)) ?_
      have := ihe [] 0 g2 (by omega) (by omega) (by show size e ≤ _; omega) (by omega) (by omega)
      rw [Int.zero_add] at this
      exact this
    refine Tells.bind hf ?_
    unfold slowv
    by_cases hbe : val n e > 1000000000
    · have hb := slow_big hn h1 hbe hone
      rw [if_pos hbe]
      refine Tells.pos (by omega) ?_
      rw [if_pos (by omega)]; exact Tells.now _
    · rw [if_neg hbe]
      refine Tells.neg (by omega) ?_
      refine Tells.bind (specRaise_ev hn hn' hve (by omega)) ?_
      have hpp := pow_pos hn (val n e).toNat
      have hmp := mul_pow_pos hn g1 (val n e).toNat
      unfold raisev
      rw [val_cons]
      by_cases hbp : n ^ (val n e).toNat > 1000000000
      · rw [if_pos hbp]
        refine Tells.pos (by omega) ?_
        rw [if_pos (by omega)]; exact Tells.now _
      · rw [if_neg hbp]
        refine Tells.neg (by omega) ?_
        have hcp : c * n ^ (val n e).toNat ≤ 9999 * 1000000000 := Int.mul_le_mul (by omega) (by omega) (by omega) (by omega)
        generalize c * n ^ (val n e).toNat = q at hmp hcp ⊢
        rw [wrap_id (i := q) (by omega) (by omega), wrap_id (i := acc + q) (by omega) (by omega)]
        by_cases hbs : acc + q > 1000000000
        · refine Tells.pos hbs ?_
          rw [if_pos (by omega)]; exact Tells.now _
        · refine Tells.neg hbs ?_
          rw [wrap_id (by omega) (by omega), snoc p]
          have := ihr (p ++ [⟨c, e⟩]) (acc + q) g3 (by omega) (by omega) (by rw [← snoc]; exact h4) (by omega) (by omega)
          rw [show ((p ++ [(⟨c, e⟩ : Tm)]).length : Int) = (p.length : Int) + 1 by simp] at this
          rw [← Int.add_assoc]
          exact this
theorem specValue_ev {n : Int} {x : O} (hn : 1 ≤ n) (hn' : n ≤ 99) (hx : Vd x) : Tells (fun k => spec_l3Value.f k (row x) n) (slowv n x) := by
  have hz := hx.size
  refine Tells.step (fun k => by rw [spec_l3Value.f]) ?_
  refine Tells.bind (terms_ev (by omega)) ?_
  have := specValue_l hn hn' x [] 0 hx.1 hx.2.1 hz hz (by omega) (by omega)
  rw [Int.zero_add] at this
  exact this

/-! #### the program -/
/-- the inner loop: the value grows by one more factor, up to the power -/
theorem slow1_l {n c : Int} {x : O} {acc i : Int} {len : Int} (hn : 2 ≤ n) (hn' : n ≤ 99) (hc : 1 ≤ c) (m : Nat) (hm : (m : Int) ≤ 1000000000) (ha : 0 ≤ acc) (ha' : acc ≤ 1000000000) {R : Int} (hbig : acc + c * n ^ m > 1000000000 → R = -1) (hgo : acc + c * n ^ m ≤ 1000000000 → Tells (fun k => impl_slow.l0 k n (acc + c * n ^ m) x len (wrap64 (i + 1))) R) :
    ∀ (d j : Nat), j + d = m → c * n ^ j ≤ 1000000000 ∨ j = 0 ∧ c ≤ 9999 → Tells (fun k => impl_slow.l1 k n acc (c * n ^ j) x len i (m : Int) (j : Int)) R := by
  intro d
  induction d with
  | zero =>
    intro j h1 h2
    have : j = m := by omega
    subst this
    have hcp : c * n ^ j ≤ 1000000000 := by
      rcases h2 with h | ⟨h, h'⟩
      · exact h
      · subst h; simp; omega
    have hcp0 : 0 ≤ c * n ^ j := Int.mul_nonneg (by omega) (by have := pow_pos (n := n) (by omega) j; omega)
    refine Tells.step (fun k => by rw [impl_slow.l1]) ?_
    refine Tells.neg (by omega) ?_
    rw [wrap_id (i := acc + c * n ^ j) (by omega) (by omega)]
    by_cases h : acc + c * n ^ j > 1000000000
    · refine Tells.pos h ?_
      rw [hbig h]; exact Tells.now _
    · exact Tells.neg h (hgo (by omega))
  | succ d ih =>
    intro j h1 h2
    have hcp : c * n ^ j ≤ 1000000000 := by
      rcases h2 with h | ⟨h, h'⟩
      · exact h
      · subst h; simp; omega
    have hcp0 : 0 ≤ c * n ^ j := Int.mul_nonneg (by omega) (by have := pow_pos (n := n) (by omega) j; omega)
    have hs : c * n ^ j * n = c * n ^ (j + 1) := by rw [pow_step', Int.mul_assoc]
    have h3 : c * n ^ j * n ≤ 1000000000 * 99 := Int.mul_le_mul hcp hn' (by omega) (by omega)
    have h4 : 0 ≤ c * n ^ j * n := Int.mul_nonneg hcp0 (by omega)
    refine Tells.step (fun k => by rw [impl_slow.l1]) ?_
    refine Tells.pos (by omega) ?_
    rw [wrap_id (i := c * n ^ j * n) (by omega) (by omega), wrap_id (i := (j : Int) + 1) (by omega) (by omega), hs]
    by_cases h : c * n ^ (j + 1) > 1000000000
    · refine Tells.pos h ?_
      have h5 := pow_mono (n := n) (by omega) (show j + 1 ≤ m by omega)
      have h6 : c * n ^ (j + 1) ≤ c * n ^ m := Int.mul_le_mul_of_nonneg_left h5 (by omega)
      rw [hbig (by omega)]; exact Tells.now _
    · refine Tells.neg h ?_
      have := ih (j + 1) (by omega) (.inl (by omega))
      rw [show ((j + 1 : Nat) : Int) = (j : Int) + 1 by simp] at this
      exact this
theorem implSlow_l {n : Int} (hn : 1 ≤ n) (hn' : n ≤ 99) : ∀ (r p : O) (acc : Int), NF r → most r ≤ 9999 → size r ≤ 60 → size (p ++ r) ≤ 60 → 0 ≤ acc → acc ≤ 1000000000 →
    Tells (fun k => impl_slow.l0 k n acc (p ++ r) ((p ++ r).length : Int) (p.length : Int)) (if acc + val n r > 1000000000 then -1 else acc + val n r) := by
  intro r
  induction r using ind with
  | h0 =>
    intro p acc h1 h2 h3 h4 h5 h6
    refine Tells.step (fun k => by rw [impl_slow.l0]) ?_
    refine Tells.neg (by simp) ?_
    refine Tells.to (Tells.now _) ?_
    rw [val_nil, if_neg (by omega)]; omega
  | h1 c e r ihe ihr =>
    intro p acc h1 h2 h3 h4 h5 h6
    obtain ⟨g1, g2, g3, g4⟩ := NF_cons.1 h1
    have hp := length_le_size (p ++ ⟨c, e⟩ :: r)
    simp only [List.length_append, List.length_cons] at hp
    have m2 := h2
    have z3 := h3
    rw [most_cons] at m2
    rw [size_cons] at z3
    have := size_pos e
    have := size_pos r
    have hve := val_nonneg hn g2
    have hvr := val_nonneg hn g3
    have hone : n = 1 → val n e ≤ 1000000000 := by
      intro h
      rw [h]
      have := val_one g2 (by omega)
      omega
    refine Tells.step (fun k => by rw [impl_slow.l0]) ?_
    refine Tells.pos (by simp; omega) ?_
    refine Tells.pos (by omega) ?_
    refine Tells.pos (by simp; omega) ?_
    rw [rdT_mid p r ⟨c, e⟩ rfl]
    have hf : Tells (fun k => impl_slow.f k e n) (slowv n e) := by
      refine Tells.step (fun k => by rw [impl_slow.f]) ?_
      have := ihe [] 0 g2 (by omega) (by omega) (by show size e ≤ _; omega) (by omega) (by omega)
      rw [Int.zero_add] at this
      exact this
    refine Tells.bind hf ?_
    unfold slowv
    by_cases hbe : val n e > 1000000000
    · have hb := slow_big hn h1 hbe hone
      rw [if_pos hbe]
      refine Tells.pos (by omega) ?_
      rw [if_pos (by omega)]; exact Tells.now _
    · rw [if_neg hbe]
      refine Tells.neg (by omega) ?_
      have hpp := pow_pos hn (val n e).toNat
      have hmp := mul_pow_pos hn g1 (val n e).toNat
      have hsum : acc + val n (⟨c, e⟩ :: r) = acc + c * n ^ (val n e).toNat + val n r := by rw [val_cons]; omega
      rw [hsum]
      have next : ∀ q, 0 ≤ q → acc + q ≤ 1000000000 → Tells (fun k => impl_slow.l0 k n (acc + q) (p ++ ⟨c, e⟩ :: r) ((p ++ ⟨c, e⟩ :: r).length : Int) (wrap64 ((p.length : Int) + 1))) (if acc + q + val n r > 1000000000 then -1 else acc + q + val n r) := by
        intro q hq1 hq2
        rw [wrap_id (by omega) (by omega), snoc p]
        have := ihr (p ++ [⟨c, e⟩]) (acc + q) g3 (by omega) (by omega) (by rw [← snoc]; exact h4) (by omega) hq2
        rw [show ((p ++ [(⟨c, e⟩ : Tm)]).length : Int) = (p.length : Int) + 1 by simp] at this
        exact this
      by_cases hn1 : n > 1
      · refine Tells.pos hn1 ?_
        have := slow1_l (x := p ++ ⟨c, e⟩ :: r) (len := ((p ++ ⟨c, e⟩ :: r).length : Int)) (i := (p.length : Int)) (acc := acc) (R := if acc + c * n ^ (val n e).toNat + val n r > 1000000000 then -1 else acc + c * n ^ (val n e).toNat + val n r) (show 2 ≤ n by omega) hn' g1 (val n e).toNat (by omega) h5 h6 (fun h => by rw [if_pos (by omega)]) (fun h => next _ (by omega) h) (val n e).toNat 0 (by omega) (.inr ⟨rfl, by omega⟩)
        rw [Int.toNat_of_nonneg hve] at this
        simpa using this
      · refine Tells.neg hn1 ?_
        have h1' : n = 1 := by omega
        subst h1'
        have hq : c * 1 ^ (val 1 e).toNat = c := by rw [one_pow', Int.mul_one]
        rw [hq]
        show Tells (fun k => if wrap64 (acc + c) > 1000000000 then some (-1) else impl_slow.l0 k 1 (wrap64 (acc + c)) (p ++ ⟨c, e⟩ :: r) ((p ++ ⟨c, e⟩ :: r).length : Int) (wrap64 ((p.length : Int) + 1))) _
        rw [wrap_id (i := acc + c) (by omega) (by omega)]
        by_cases hbs : acc + c > 1000000000
        · refine Tells.pos hbs ?_
          rw [if_pos (by omega)]; exact Tells.now _
        · exact Tells.neg hbs (next c (by omega) (by omega))
theorem implSlow_ev {n : Int} {x : O} (hn : 1 ≤ n) (hn' : n ≤ 99) (hx : Vd x) : Tells (fun k => impl_slow.f k x n) (slowv n x) := by
  have hz := hx.size
  refine Tells.step (fun k => by rw [impl_slow.f]) ?_
  have := implSlow_l hn hn' x [] 0 hx.1 hx.2.1 hz hz (by omega) (by omega)
  rw [Int.zero_add] at this
  exact this
/-! #### both -/
def slowValv (a : List Int) (n : Int) : Int := match ordOf a with
  | some x => if 1 ≤ n ∧ n ≤ 99 then slowv n x else -1
  | none => -1
theorem slowValv_some {l : List Int} {x : O} (h : ordOf l = some x) (n : Int) : slowValv l n = if 1 ≤ n ∧ n ≤ 99 then slowv n x else -1 := by unfold slowValv; rw [h]
theorem slowValv_none {l : List Int} (h : ordOf l = none) (n : Int) : slowValv l n = -1 := by unfold slowValv; rw [h]
theorem specSlowValue_ev {a : List Int} {n : Int} (ha : (a.length : Int) ≤ 100000000) : Tells (fun k => spec_SlowValue.f k a n) (slowValv a n) := by
  cases h : ordOf a with
  | none =>
    rw [slowValv_none h]
    refine Tells.bind (invalid_ev ha h) ?_
    exact Tells.neg (by simp) (Tells.now _)
  | some x =>
    rw [slowValv_some h]
    refine Tells.bind (valid_ev h) ?_
    refine Tells.pos rfl ?_
    refine Tells.bind (Tells.const (l1In_eq n 1 99)) ?_
    obtain ⟨h1, h2⟩ := ordOf_some h
    by_cases g : 1 ≤ n ∧ n ≤ 99
    · rw [if_pos g]
      refine Tells.pos (decide_eq_true g) ?_
      rw [h1]
      exact Tells.bind (specValue_ev g.1 g.2 h2) (Tells.now _)
    · rw [if_neg g]
      exact Tells.neg (by rw [decide_eq_false g]; simp) (Tells.now _)
theorem implSlowValue_ev {a : List Int} {n : Int} : Tells (fun k => impl_SlowValue.f k a n) (slowValv a n) := by
  refine Tells.bind ordOf_ev ?_
  cases h : ordOf a with
  | none => rw [slowValv_none h]; exact Tells.neg (by rw [ordv_none h]; simp) (Tells.now _)
  | some x =>
    rw [ordv_some h, slowValv_some h]
    refine Tells.pos rfl ?_
    obtain ⟨h1, h2⟩ := ordOf_some h
    by_cases g1 : n < 1
    · rw [if_neg (by omega)]; exact Tells.pos g1 (Tells.now _)
    · refine Tells.neg g1 ?_
      by_cases g2 : n > 99
      · rw [if_neg (by omega)]; exact Tells.pos g2 (Tells.now _)
      · refine Tells.neg g2 ?_
        rw [if_pos (by omega)]
        exact Tells.bind (implSlow_ev (by omega) (by omega) h2) (Tells.now _)
end Go.Proofs.Ytogaeadigmgcoaa.P
