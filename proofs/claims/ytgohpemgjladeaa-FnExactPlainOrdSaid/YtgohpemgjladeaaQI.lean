/- Numbers with exponents that stay numbers: the ordinal of a number in a base, and the next number in the next base, as both tell them. -/
import Derived.Test.YtgohpemgjladeaaP0
import Derived.Test.YtgohpemgjladeaaMath
import Derived.Test.YtgohpemgjladeaaPspecPlainOrd
import Derived.Test.YtgohpemgjladeaaPimplPlainOrd
import Derived.Test.YtgohpemgjladeaaPspecOrdOf
import Derived.Test.YtgohpemgjladeaaPimplnumber
import Derived.Test.YtgohpemgjladeaaPspecl1Make
import Derived.Test.YtgohpemgjladeaaPimpltold
import Derived.Test.YtgohpemgjladeaaPimpldigits
import Derived.Test.YtgohpemgjladeaaPspecl1In
import Derived.Test.YtgohpemgjladeaaQH
import Derived.Test.YtgohpemgjladeaaQN
namespace Go.Proofs.Ytgohpemgjladeaa.P
open OM Go.RowKit Go.Proofs.YtgohpemgjladeaaW.PrintWords Go.Proofs.YtgohpemgjladeaaW.PrintLast Go.Proofs.YtgohpemgjladeaaW.PrintMore
set_option linter.unusedVariables false

theorem Digs.length {b n : Int} {ds : List Int} (hb : 2 ≤ b) (h : Digs b n ds) (hn : n ≤ 1000000000) : ds.length ≤ 31 := by
  by_cases hne : ds = []
  · subst hne; simp
  · have h1 := h.len hb hne
    have : ds.length - 1 < 30 := by
      refine pow_lt_iff hb ?_
      have h2 : (2 : Int) ^ 30 ≤ b ^ 30 := pow_base (by omega) hb 30
      have : (2 : Int) ^ 30 = 1073741824 := by decide
      omega
    omega
def plain (j : Nat) : List Int → O
  | [] => []
  | d :: l => plain (j + 1) l ++ (if d > 0 then [⟨d, num (j : Int)⟩] else [])
theorem plain_snoc (t : Int) : ∀ (l : List Int) (j : Nat), plain j (l ++ [t]) = (if t > 0 then [⟨t, num ((j + l.length : Nat) : Int)⟩] else []) ++ plain j l := by
  intro l
  induction l with
  | nil => intro j; simp [plain]
  | cons d l ih =>
    intro j
    rw [List.cons_append, plain, ih (j + 1), plain, List.length_cons, show j + 1 + l.length = j + (l.length + 1) by omega, List.append_assoc]
theorem plain_zero (l : List Int) : plain 0 (l ++ [0]) = plain 0 l := by rw [plain_snoc, if_neg (by omega)]; rfl
theorem plain_pos {t : Int} (h : t > 0) (l : List Int) : plain 0 (l ++ [t]) = ⟨t, num (l.length : Int)⟩ :: plain 0 l := by rw [plain_snoc, if_pos h, Nat.zero_add]; rfl
theorem most_num {c : Int} (h : 0 ≤ c) : most (num c) = c := by unfold num; split <;> simp only [most_cons, most_nil] <;> omega
/-- the greatest power that is not greater: the reference's search -/
theorem ppow {b n : Int} (hb : 2 ≤ b) (hb' : b ≤ 90) (hn' : n ≤ 1000000000) {A : List Int} {B : List (List Int)} {r : List Int} :
    ∀ (d : Nat) (j : Nat), b ^ j ≤ n → (n - b ^ j).toNat < d → (∀ i : Nat, b ^ i ≤ n → n < b ^ (i + 1) → Tells (fun k => spec_PlainOrd.l1 k n b A B (b ^ i) (i : Int)) r) → Tells (fun k => spec_PlainOrd.l1 k n b A B (b ^ j) (j : Int)) r := by
  intro d
  induction d with
  | zero => intro j h1 h2 h3; omega
  | succ d ih =>
    intro j h1 h2 h3
    by_cases h : n < b ^ (j + 1)
    · exact h3 j h1 h
    · have hp := pow_pos (n := b) (by omega) j
      have hg := pow_gt hb j
      have hs := pow_step (b := b) j
      have hlt : b ^ j * 2 ≤ b ^ j * b := Int.mul_le_mul_of_nonneg_left hb (by omega)
      refine Tells.step (fun k => by rw [spec_PlainOrd.l1]) ?_
      refine Tells.neg (by omega) ?_
      have hq : b ^ j ≤ n / b := by rw [Int.le_ediv_iff_mul_le (by omega)]; omega
      have hqn : n / b ≤ n := Int.ediv_le_self _ (by omega)
      rw [tdiv_ediv (by omega), wrap_id (i := n / b) (by omega) (by omega)]
      refine Tells.pos hq ?_
      have hbb : b ^ j * b ≤ n := by omega
      rw [wrap_id (i := b ^ j * b) (by omega) (by omega), wrap_id (i := (j : Int) + 1) (by omega) (by omega), ← hs]
      have := ih (j + 1) (by omega) (by omega) h3
      rw [show ((j + 1 : Nat) : Int) = (j : Int) + 1 by simp] at this
      exact this
theorem plainSpec_l {b : Int} (hb : 2 ≤ b) (hb' : b ≤ 90) :
    ∀ (m : Nat) (lo : List Int) (y : O), lo.length = m → (∀ d ∈ lo, 0 ≤ d ∧ d < b) → m ≤ 31 → dval b lo ≤ 1000000000 → size y + 4 * (m : Int) ≤ 1000 → Tells (fun k => spec_PlainOrd.l0 k (dval b lo) b (cs y) (es y)) (fit (y ++ plain 0 lo)) := by
  intro m
  induction m with
  | zero =>
    intro lo y h h1 h2 h3 h4
    have : lo = [] := List.eq_nil_of_length_eq_zero h
    subst this
    refine Tells.step (fun k => by rw [spec_PlainOrd.l0]) ?_
    refine Tells.neg (by simp [dval]) ?_
    refine Tells.bind (make_ev (by omega)) ?_
    have hl := row_length y
    rw [plain, List.append_nil]
    unfold fit
    by_cases g : size y ≤ 60
    · rw [if_pos g]
      refine Tells.neg (by omega) ?_
      exact Tells.bind (make_ev (by omega)) (Tells.now _)
    · rw [if_neg g]
      exact Tells.pos (by omega) (Tells.now _)
  | succ n ih =>
    intro lo y h h1 h2 h3 h4
    rcases List.eq_nil_or_concat lo with h' | ⟨l, t, h'⟩
    · rw [h'] at h; simp at h
    · rw [List.concat_eq_append] at h'
      subst h'
      have hln : l.length = n := by simpa using h
      have ht := h1 t (by simp)
      have hl1 : ∀ d ∈ l, 0 ≤ d ∧ d < b := fun d hd => h1 d (by simp [hd])
      have hv : dval b (l ++ [t]) = dval b l + b ^ n * t := by rw [dval_append, hln]; simp [dval]
      have hll := dval_lt hb l hl1
      rw [hln] at hll
      by_cases hz : t > 0
      · have hpp := pow_pos (n := b) (by omega) n
        have hn1 : b ^ n ≤ dval b (l ++ [t]) := by
          have : b ^ n * 1 ≤ b ^ n * t := Int.mul_le_mul_of_nonneg_left (by omega) (by omega)
          omega
        have hn2 : dval b (l ++ [t]) < b ^ (n + 1) := by
          have : b ^ n * (t + 1) ≤ b ^ n * b := Int.mul_le_mul_of_nonneg_left (by omega) (by omega)
          rw [Int.mul_add] at this
          rw [pow_step]; omega
        have hmod : dval b (l ++ [t]) % b ^ n = dval b l := by
          rw [hv, Int.add_mul_emod_self_left, Int.emod_eq_of_lt hll.1 hll.2]
        have hdiv : dval b (l ++ [t]) / b ^ n = t := by
          rw [hv, Int.add_mul_ediv_left _ _ (show b ^ n ≠ 0 by omega), Int.ediv_eq_zero_of_lt hll.1 hll.2]; omega
        have hsn := size_num (n : Int)
        have hrec := ih l (y ++ [⟨t, num (n : Int)⟩]) hln hl1 (by omega) (by omega) (by rw [size_append, size_cons, size_nil]; omega)
        generalize hN : dval b (l ++ [t]) = N at hn1 hn2 hmod hdiv h3 ⊢
        rw [plain_pos hz, hln, snoc y]
        refine Tells.step (fun k => by rw [spec_PlainOrd.l0]) ?_
        refine Tells.pos (by omega) ?_
        have := ppow (A := cs y) (B := es y) (r := fit (y ++ [⟨t, num (n : Int)⟩] ++ plain 0 l)) hb hb' h3 (N.toNat + 1) 0 (n := N) (by simp; omega) (by simp; omega) (fun i hi1 hi2 => ?_)
        · simpa using this
        · have hij : i = n := by
            have h1 := pow_lt_iff hb (show b ^ i < b ^ (n + 1) by omega)
            have h2 := pow_lt_iff hb (show b ^ n < b ^ (i + 1) by omega)
            omega
          subst hij
          have hs := pow_step (b := b) i
          have hq : ¬ b ^ i ≤ N / b := by
            intro hc
            rw [Int.le_ediv_iff_mul_le (by omega)] at hc; omega
          have hqn : N / b ≤ N := Int.ediv_le_self _ (by omega)
          have hq0 : 0 ≤ N / b := Int.ediv_nonneg (by omega) (by omega)
          refine Tells.step (fun k => by rw [spec_PlainOrd.l1]) ?_
          refine Tells.neg (by omega) ?_
          rw [tdiv_ediv (by omega), wrap_id (i := N / b) (by omega) (by omega)]
          refine Tells.neg hq ?_
          refine Tells.neg (by omega) ?_
          have hly := length_le_size y
          refine Tells.pos (by rw [cs_length]; omega) ?_
          have hof : spec_OrdOf.f (i : Int) = some (row (num (i : Int))) := by rw [specOrdOf_eq]; unfold ofv; rw [if_pos (by omega)]
          refine Tells.bind (Tells.const hof) ?_
          refine Tells.pos (by rw [es_length]; omega) ?_
          rw [tmod_emod (by omega), tdiv_ediv (by omega), hmod, hdiv, wrap_id (by omega) (by omega)]
          rw [show cs y ++ [t] = cs (y ++ [⟨t, num (i : Int)⟩]) by rw [cs_append]; rfl, show es y ++ [row (num (i : Int))] = es (y ++ [⟨t, num (i : Int)⟩]) by rw [es_append]; rfl]
          exact hrec
      · have ht0 : t = 0 := by omega
        subst ht0
        rw [plain_zero]
        have hv' : dval b (l ++ [0]) = dval b l := by rw [hv]; simp
        rw [hv'] at h3 ⊢
        exact ih l y hln hl1 (by omega) h3 (by omega)
theorem plainImpl_l {b : Int} (hb : 2 ≤ b) (hb' : b ≤ 90) :
    ∀ (m : Nat) (lo hi : List Int) (y : O), lo.length = m → (∀ d ∈ lo, 0 ≤ d ∧ d < b) → m ≤ 31 → size y + 4 * (m : Int) ≤ 1000 → most y ≤ 9999 → Tells (fun k => impl_PlainOrd.l0 k y (lo ++ hi) ((m : Int) - 1)) (fit (y ++ plain 0 lo)) := by
  intro m
  induction m with
  | zero =>
    intro lo hi y h h1 h2 h4 h5
    have : lo = [] := List.eq_nil_of_length_eq_zero h
    subst this
    refine Tells.step (fun k => by rw [impl_PlainOrd.l0]) ?_
    refine Tells.neg (by simp) ?_
    refine Tells.bind (told_ev (by omega)) ?_
    rw [plain, List.append_nil]
    exact Tells.to (Tells.now _) (toldv_fit h5)
  | succ n ih =>
    intro lo hi y h h1 h2 h4 h5
    rcases List.eq_nil_or_concat lo with h' | ⟨l, t, h'⟩
    · rw [h'] at h; simp at h
    · rw [List.concat_eq_append] at h'
      subst h'
      have hln : l.length = n := by simpa using h
      have ht := h1 t (by simp)
      have hl1 : ∀ d ∈ l, 0 ≤ d ∧ d < b := fun d hd => h1 d (by simp [hd])
      have hrd : rd ((l ++ [t]) ++ hi) ((n : Int) + 1 - 1) = t := by
        rw [List.append_assoc]; exact rd_mid l hi t (by omega)
      refine Tells.step (fun k => by rw [impl_PlainOrd.l0]) ?_
      refine Tells.pos (by simp <;> omega) ?_
      refine Tells.pos (by simp <;> omega) ?_
      refine Tells.pos (by simp <;> omega) ?_
      rw [show (((n + 1 : Nat) : Int) - 1) = (n : Int) + 1 - 1 by simp, hrd]
      by_cases hz : t > 0
      · refine Tells.pos hz ?_
        refine Tells.bind (Tells.const (number_eq _)) ?_
        have hly := length_le_size y
        refine Tells.pos (by omega) ?_
        have hsn := size_num (n : Int)
        have hmn := most_num (show 0 ≤ (n : Int) by omega)
        have := ih l ([t] ++ hi) (y ++ [⟨t, num (n : Int)⟩]) hln hl1 (by omega) (by rw [size_append, size_cons, size_nil]; omega) (by rw [most_append, most_cons, most_nil]; omega)
        rw [show (n : Int) + 1 - 1 = (n : Int) by omega, wrap_id (by omega) (by omega), List.append_assoc, plain_pos hz, hln, show y ++ (⟨t, num (n : Int)⟩ : Tm) :: plain 0 l = (y ++ [⟨t, num (n : Int)⟩]) ++ plain 0 l by simp]
        exact this
      · have ht0 : t = 0 := by omega
        subst ht0
        refine Tells.neg hz ?_
        have := ih l ([0] ++ hi) y hln hl1 (by omega) (by omega) h5
        rw [show (n : Int) + 1 - 1 = (n : Int) by omega, wrap_id (by omega) (by omega), List.append_assoc, plain_zero]
        exact this
theorem specPlainOrd_no {a b : Int} (h : ¬ InB b a) : Tells (fun k => spec_PlainOrd.f k a b) [] := by
  unfold InB at h
  have bad : Tells (fun k => spec_PlainOrd.j0 k a b true) [] := by
    refine Tells.step (fun k => by rw [spec_PlainOrd.j0]) ?_
    exact Tells.pos rfl (Tells.now _)
  refine Tells.bind (Tells.const (l1In_eq a 0 1000000000)) ?_
  by_cases h1 : 0 ≤ a ∧ a ≤ 1000000000
  · refine Tells.pos (decide_eq_true h1) ?_
    refine Tells.bind (Tells.const (l1In_eq b 2 90)) ?_
    rw [decide_eq_false (show ¬ (2 ≤ b ∧ b ≤ 90) by omega)]
    exact bad
  · exact Tells.neg (by simp; omega) bad
theorem implPlainOrd_no {a b : Int} (h : ¬ InB b a) : Tells (fun k => impl_PlainOrd.f k a b) [] := by
  unfold InB at h
  have bad : Tells (fun k => impl_PlainOrd.j0 k a b true) [] := by
    refine Tells.step (fun k => by rw [impl_PlainOrd.j0]) ?_
    exact Tells.pos rfl (Tells.now _)
  by_cases h1 : a < 0
  · exact Tells.pos h1 bad
  · refine Tells.neg h1 ?_
    by_cases h2 : a > 1000000000
    · exact Tells.pos h2 bad
    · refine Tells.neg h2 ?_
      by_cases h3 : b < 2
      · exact Tells.pos h3 bad
      · refine Tells.neg h3 ?_
        rw [decide_eq_true (show b > 90 by omega)]; exact bad
theorem both_PlainOrd' {a b : Int} (h : InB b a) : ∃ ds, Digs b a ds ∧ ds.length ≤ 31 ∧ Tells (fun k => spec_PlainOrd.f k a b) (fit (plain 0 ds)) ∧ Tells (fun k => impl_PlainOrd.f k a b) (fit (plain 0 ds)) := by
  obtain ⟨h1, h2, h3, h4⟩ := h
  obtain ⟨ds, hds, _, ht⟩ := digits_ev h3 h4 h1 h2
  have hl := hds.length h3 h2
  refine ⟨ds, hds, hl, ?_, ?_⟩
  · refine Tells.bind (Tells.const (l1In_eq a 0 1000000000)) ?_
    refine Tells.pos (by simp; omega) ?_
    refine Tells.bind (Tells.const (l1In_eq b 2 90)) ?_
    rw [decide_eq_true (show 2 ≤ b ∧ b ≤ 90 by omega)]
    refine Tells.step (fun k => by rw [spec_PlainOrd.j0]) ?_
    refine Tells.neg (by simp) ?_
    have := plainSpec_l h3 h4 ds.length ds [] rfl hds.lo hl (by rw [hds.val]; omega) (by rw [size_nil]; omega)
    rw [hds.val] at this
    exact this
  · refine Tells.neg (by omega) ?_
    refine Tells.neg (by omega) ?_
    refine Tells.neg (by omega) ?_
    rw [decide_eq_false (show ¬ b > 90 by omega)]
    refine Tells.step (fun k => by rw [impl_PlainOrd.j0]) ?_
    refine Tells.neg (by simp) ?_
    refine Tells.bind ht ?_
    rw [wrap_id (by omega) (by omega)]
    have := plainImpl_l h3 h4 ds.length ds [] [] rfl hds.lo hl (by rw [size_nil]; omega) (by rw [most_nil]; omega)
    rw [List.append_nil] at this
    exact this
theorem both_PlainOrd (a b : Int) : ∃ r : List Int, (r.length : Int) ≤ 60 ∧ Tells (fun k => spec_PlainOrd.f k a b) r ∧ Tells (fun k => impl_PlainOrd.f k a b) r := by
  by_cases h : InB b a
  · obtain ⟨ds, _, _, g1, g2⟩ := both_PlainOrd' h
    exact ⟨_, fit_length _, g1, g2⟩
  · exact ⟨[], by simp, specPlainOrd_no h, implPlainOrd_no h⟩
end Go.Proofs.Ytgohpemgjladeaa.P
