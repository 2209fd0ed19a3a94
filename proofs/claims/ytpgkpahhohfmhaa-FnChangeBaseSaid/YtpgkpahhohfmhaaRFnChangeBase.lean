/- Greater bases make greater numbers: the law's pure statement. -/
import Derived.Test.YtpgkpahhohfmhaaP0
import Derived.Test.YtpgkpahhohfmhaaMath
import Derived.Test.YtpgkpahhohfmhaaPcmpCompareint
import Derived.Test.YtpgkpahhohfmhaaPimplcompare
import Derived.Test.YtpgkpahhohfmhaaPimpltakeOrd
import Derived.Test.YtpgkpahhohfmhaaPimplordOf
import Derived.Test.YtpgkpahhohfmhaaPimplrowOf
import Derived.Test.YtpgkpahhohfmhaaPimplsizeOf
import Derived.Test.YtpgkpahhohfmhaaPimplmost
import Derived.Test.YtpgkpahhohfmhaaPslicesClipintint
import Derived.Test.YtpgkpahhohfmhaaPimpltold
import Derived.Test.YtpgkpahhohfmhaaPspecl1In
import Derived.Test.YtpgkpahhohfmhaaPspecl1Span
import Derived.Test.YtpgkpahhohfmhaaPspecl1Terms
import Derived.Test.YtpgkpahhohfmhaaPspecl1Compare
import Derived.Test.YtpgkpahhohfmhaaPspecl1Make
import Derived.Test.YtpgkpahhohfmhaaPspecOrdOf
import Derived.Test.YtpgkpahhohfmhaaPimplOrdOf
import Derived.Test.YtpgkpahhohfmhaaPimplnumber
import Derived.Test.YtpgkpahhohfmhaaPlawssameInts
import Derived.Test.YtpgkpahhohfmhaaPlawsalive
import Derived.Test.YtpgkpahhohfmhaaPspecl4Ord
import Derived.Test.YtpgkpahhohfmhaaPimplinBase
import Derived.Test.YtpgkpahhohfmhaaPimpldigits
import Derived.Test.YtpgkpahhohfmhaaPspecOrdInBase
import Derived.Test.YtpgkpahhohfmhaaPimplOrdInBase
import Derived.Test.YtpgkpahhohfmhaaPspecl1End
import Derived.Test.YtpgkpahhohfmhaaPspecOrdValid
import Derived.Test.YtpgkpahhohfmhaaPspecSlowValue
import Derived.Test.YtpgkpahhohfmhaaPimplSlowValue
import Derived.Test.YtpgkpahhohfmhaaPimplslow
import Derived.Test.YtpgkpahhohfmhaaPspecl3Value
import Derived.Test.YtpgkpahhohfmhaaPspecl3Raise
import Derived.Test.YtpgkpahhohfmhaaPspecChangeBase
import Derived.Test.YtpgkpahhohfmhaaPimplChangeBase
import Derived.Test.YtpgkpahhohfmhaaPspecl20Open
import Derived.Test.YtpgkpahhohfmhaaPspecl20Rdpick
import Derived.Test.YtpgkpahhohfmhaaPspecl20Count
import Derived.Test.YtpgkpahhohfmhaaPspecl20Root
import Derived.Test.YtpgkpahhohfmhaaPlawsFnChangeBase
import Derived.Test.YtpgkpahhohfmhaaPspecDrawChangeBase
namespace Go.Proofs.Ytpgkpahhohfmhaa.P
open OM Go.RowKit Go.Proofs.YtpgkpahhohfmhaaW.PrintWords Go.Proofs.YtpgkpahhohfmhaaW.PrintLast Go.Proofs.YtpgkpahhohfmhaaW.PrintMore
set_option linter.unusedVariables false

theorem wrap_id {i : Int} (h0 : -9000000000000000000 ≤ i) (h : i ≤ 9000000000000000000) : wrap64 i = i := by unfold wrap64; omega
theorem getD_mid {α : Type} (p s : List α) (c d : α) {i : Int} (hi : i = (p.length : Int)) : (p ++ c :: s).getD i.toNat d = c := by subst hi; simp
theorem rd_mid (p s : List Int) (c : Int) {i : Int} (hi : i = (p.length : Int)) : rd (p ++ c :: s) i = c := getD_mid p s c 0 hi
theorem rdT_mid (p s : O) (c : Tm) {i : Int} (hi : i = (p.length : Int)) : rd_T69 (p ++ c :: s) i = c := getD_mid p s c _ hi
theorem rdL_mid (p s : List (List Int)) (c : List Int) {i : Int} (hi : i = (p.length : Int)) : rd_L3 (p ++ c :: s) i = c := getD_mid p s c _ hi
theorem snoc {α : Type} (p s : List α) (c : α) : p ++ c :: s = (p ++ [c]) ++ s := by simp
theorem size_append (p r : O) : size (p ++ r) = size p + size r - 1 := by
  induction p with
  | nil => rw [size_nil]; show size r = _; omega
  | cons t p ih => obtain ⟨c, e⟩ := t; show size (⟨c, e⟩ :: (p ++ r)) = _; rw [size_cons, size_cons, ih]; omega

/-! #### comparing -/
theorem cmpInt (a b : Int) : cmp_Compare_int.f a b = some (if a < b then -1 else if b < a then 1 else 0) := by
  unfold cmp_Compare_int.f cmp_isNaN_int.f
  simp only [Option.bind_some, bne_self_eq_false, Bool.false_eq_true, if_false]
  split
  · rfl
  · split <;> rfl
theorem compare_f (k : Nat) (x y : O) : impl_compare.f (k + 1) x y = impl_compare.l0 k x y 0 := by rw [impl_compare.f]
theorem compare_l : ∀ (r p q s : O), p.length = q.length → size (p ++ r) ≤ 10000000000 → size (q ++ s) ≤ 10000000000 → Tells (fun k => impl_compare.l0 k (p ++ r) (q ++ s) (p.length : Int)) (cmp r s) := by
  intro r
  induction r using ind with
  | h0 =>
    intro p q s hl h1 h2
    have hs := length_le_size (p ++ [])
    have hq := length_le_size (q ++ s)
    refine Tells.step (fun k => by rw [impl_compare.l0]) ?_
    refine Tells.neg (by simp) ?_
    refine Tells.step (fun k => by rw [impl_compare.j1]) ?_
    refine Tells.neg (by simp) ?_
    refine Tells.bind (Tells.const (cmpInt _ _)) ?_
    refine Tells.to (Tells.now _) ?_
    simp only [List.length_append, List.length_nil, Nat.add_zero]
    cases s with
    | nil => rw [cmp_nn, if_neg (by simp; omega), if_neg (by simp; omega)]
    | cons t s => rw [cmp_nc, if_pos (by simp; omega)]
  | h1 c e r ihe ihr =>
    intro p q s hl h1 h2
    have hp := length_le_size p
    have hs := length_le_size (p ++ (⟨c, e⟩ :: r))
    have hq := length_le_size (q ++ s)
    refine Tells.step (fun k => by rw [impl_compare.l0]) ?_
    refine Tells.pos (by simp; omega) ?_
    refine Tells.step (fun k => by rw [impl_compare.j1]) ?_
    cases s with
    | nil =>
      refine Tells.neg (by simp; omega) ?_
      refine Tells.bind (Tells.const (cmpInt _ _)) ?_
      refine Tells.to (Tells.now _) ?_
      rw [cmp_cn, if_neg (by simp; omega), if_pos (by simp; omega)]
    | cons t s =>
      obtain ⟨d, f⟩ := t
      refine Tells.pos (by simp; omega) ?_
      refine Tells.pos (by omega) ?_
      refine Tells.pos (by simp; omega) ?_
      refine Tells.pos (by simp; omega) ?_
      rw [rdT_mid p r ⟨c, e⟩ rfl, rdT_mid q s ⟨d, f⟩ (by rw [hl])]
      have z1 := h1
      have z2 := h2
      rw [size_append, size_cons] at z1 z2
      have := size_pos r
      have := size_pos s
      have := size_pos p
      have := size_pos q
      have := size_pos e
      have := size_pos f
      refine Tells.bind (Tells.step (fun k => compare_f k e f) (ihe [] [] f rfl (by show size e ≤ _; omega) (by show size f ≤ _; omega))) ?_
      show Tells (fun k => if cmp e f = 0 then _ else _) _
      rw [cmp_cc]
      by_cases z : cmp e f = 0
      · refine Tells.pos z ?_
        rw [if_pos z]
        refine Tells.bind (Tells.const (cmpInt _ _)) ?_
        by_cases a : c < d
        · rw [if_pos a, if_pos a]
          exact Tells.neg (by omega) (Tells.now _)
        · by_cases b : d < c
          · rw [if_neg a, if_pos b, if_neg a, if_pos b]
            exact Tells.neg (by omega) (Tells.now _)
          · rw [if_neg a, if_neg b, if_neg a, if_neg b]
            refine Tells.pos rfl ?_
            rw [snoc p, snoc q, wrap_id (by omega) (by omega)]
            have := ihr (p ++ [⟨c, e⟩]) (q ++ [⟨d, f⟩]) s (by simp [hl]) (by rw [← snoc]; exact h1) (by rw [← snoc]; exact h2)
            rw [show ((p ++ [(⟨c, e⟩ : Tm)]).length : Int) = (p.length : Int) + 1 by simp] at this
            exact this
      · refine Tells.neg z ?_
        rw [if_neg z]
        exact Tells.now _
theorem compare_ev {x y : O} (hx : size x ≤ 10000000000) (hy : size y ≤ 10000000000) : Tells (fun k => impl_compare.f k x y) (cmp x y) :=
  Tells.step (fun k => compare_f k x y) (compare_l x [] [] y rfl hx hy)

/-! #### rows, sizes, greatest numbers -/
theorem rowOf_f (k : Nat) (x : O) : impl_rowOf.f (k + 1) x = impl_rowOf.l0 k [(x.length : Int)] x (x.length : Int) 0 := by rw [impl_rowOf.f]
theorem rowOf_l : ∀ (r p : O) (acc : List Int), size (p ++ r) ≤ 10000000000 → (acc.length : Int) + size r ≤ 20000000000 → Tells (fun k => impl_rowOf.l0 k acc (p ++ r) ((p ++ r).length : Int) (p.length : Int)) (acc ++ flat r) := by
  intro r
  induction r using ind with
  | h0 =>
    intro p acc h1 h2
    refine Tells.step (fun k => by rw [impl_rowOf.l0]) ?_
    refine Tells.neg (by simp) ?_
    refine Tells.to (Tells.now _) ?_
    rw [flat_nil, List.append_nil]
  | h1 c e r ihe ihr =>
    intro p acc h1 h2
    have hp := length_le_size p
    have z1 := h1
    rw [size_append, size_cons] at z1
    rw [size_cons] at h2
    have := size_pos r
    have := size_pos p
    have := size_pos e
    refine Tells.step (fun k => by rw [impl_rowOf.l0]) ?_
    refine Tells.pos (by simp; omega) ?_
    refine Tells.pos (by omega) ?_
    refine Tells.pos (by simp; omega) ?_
    refine Tells.pos (by omega) ?_
    refine Tells.sbind ?_
    rw [rdT_mid p r ⟨c, e⟩ rfl]
    refine Tells.bind (Tells.step (fun k => rowOf_f k e) (ihe [] [(e.length : Int)] (by show size e ≤ _; omega) (by simp; omega))) ?_
    have hl := row_length e
    have he : ([(e.length : Int)] ++ flat e) = row e := rfl
    rw [he]
    refine Tells.pos (by simp only [List.length_append, List.length_cons, List.length_nil]; omega) ?_
    rw [wrap_id (by omega) (by omega), snoc p]
    have := ihr (p ++ [⟨c, e⟩]) (acc ++ [c] ++ row e) (by rw [← snoc]; exact h1) (by simp only [List.length_append, List.length_cons, List.length_nil]; omega)
    rw [show ((p ++ [(⟨c, e⟩ : Tm)]).length : Int) = (p.length : Int) + 1 by simp] at this
    refine Tells.to this ?_
    rw [flat_cons]; simp
theorem rowOf_ev {x : O} (hx : size x ≤ 10000000000) : Tells (fun k => impl_rowOf.f k x) (row x) :=
  Tells.step (fun k => rowOf_f k x) (rowOf_l x [] [(x.length : Int)] hx (by simp; omega))
theorem sizeOf_f (k : Nat) (x : O) : impl_sizeOf.f (k + 1) x = impl_sizeOf.l0 k 1 x (x.length : Int) 0 := by rw [impl_sizeOf.f]
theorem sizeOf_l : ∀ (r p : O) (n : Int), size (p ++ r) ≤ 10000000000 → 0 ≤ n → n + size r ≤ 20000000000 → Tells (fun k => impl_sizeOf.l0 k n (p ++ r) ((p ++ r).length : Int) (p.length : Int)) (n + size r - 1) := by
  intro r
  induction r using ind with
  | h0 =>
    intro p n h1 h2 h3
    refine Tells.step (fun k => by rw [impl_sizeOf.l0]) ?_
    refine Tells.neg (by simp) ?_
    refine Tells.to (Tells.now _) ?_
    rw [size_nil]; omega
  | h1 c e r ihe ihr =>
    intro p n h1 h2 h3
    have hp := length_le_size p
    have z1 := h1
    rw [size_append, size_cons] at z1
    rw [size_cons] at h3 ⊢
    have := size_pos r
    have := size_pos p
    have := size_pos e
    refine Tells.step (fun k => by rw [impl_sizeOf.l0]) ?_
    refine Tells.pos (by simp; omega) ?_
    refine Tells.pos (by omega) ?_
    refine Tells.pos (by simp; omega) ?_
    rw [rdT_mid p r ⟨c, e⟩ rfl]
    refine Tells.bind (Tells.step (fun k => sizeOf_f k e) (ihe [] 1 (by show size e ≤ _; omega) (by omega) (by omega))) ?_
    rw [wrap_id (i := (p.length : Int) + 1) (by omega) (by omega), wrap_id (i := 1 + (1 + size e - 1)) (by omega) (by omega), wrap_id (i := n + (1 + (1 + size e - 1))) (by omega) (by omega), snoc p]
    have := ihr (p ++ [⟨c, e⟩]) (n + (1 + (1 + size e - 1))) (by rw [← snoc]; exact h1) (by omega) (by omega)
    rw [show ((p ++ [(⟨c, e⟩ : Tm)]).length : Int) = (p.length : Int) + 1 by simp] at this
    exact Tells.to this (by omega)
theorem sizeOf_ev {x : O} (hx : size x ≤ 10000000000) : Tells (fun k => impl_sizeOf.f k x) (size x) :=
  Tells.to (Tells.step (fun k => sizeOf_f k x) (sizeOf_l x [] 1 hx (by omega) (by omega))) (by omega)
theorem mx_max (a b : Int) : mx a b = max a b := by unfold mx; omega
theorem most_f (k : Nat) (x : O) : impl_most.f (k + 1) x = impl_most.l0 k 0 x (x.length : Int) 0 := by rw [impl_most.f]
theorem most_l : ∀ (r p : O) (n : Int), size (p ++ r) ≤ 10000000000 → 0 ≤ n → Tells (fun k => impl_most.l0 k n (p ++ r) ((p ++ r).length : Int) (p.length : Int)) (max n (most r)) := by
  intro r
  induction r using ind with
  | h0 =>
    intro p n h1 h2
    refine Tells.step (fun k => by rw [impl_most.l0]) ?_
    refine Tells.neg (by simp) ?_
    refine Tells.to (Tells.now _) ?_
    rw [most_nil]; omega
  | h1 c e r ihe ihr =>
    intro p n h1 h2
    have hp := length_le_size p
    have z1 := h1
    rw [size_append, size_cons] at z1
    have := size_pos r
    have := size_pos p
    have := size_pos e
    have := most_pos e
    refine Tells.step (fun k => by rw [impl_most.l0]) ?_
    refine Tells.pos (by simp; omega) ?_
    refine Tells.pos (by omega) ?_
    refine Tells.pos (by simp; omega) ?_
    rw [rdT_mid p r ⟨c, e⟩ rfl]
    refine Tells.bind (Tells.step (fun k => most_f k e) (ihe [] 0 (by show size e ≤ _; omega) (by omega))) ?_
    rw [wrap_id (i := (p.length : Int) + 1) (by omega) (by omega), mx_max, mx_max, snoc p]
    have := ihr (p ++ [⟨c, e⟩]) (max (max n c) (max 0 (most e))) (by rw [← snoc]; exact h1) (by omega)
    rw [show ((p ++ [(⟨c, e⟩ : Tm)]).length : Int) = (p.length : Int) + 1 by simp] at this
    refine Tells.to this ?_
    rw [most_cons]; omega
theorem most_ev {x : O} (hx : size x ≤ 10000000000) : Tells (fun k => impl_most.f k x) (most x) :=
  Tells.to (Tells.step (fun k => most_f k x) (most_l x [] 0 hx (by omega))) (by have := most_pos x; omega)
/-- what told tells -/
def toldv (x : O) : List Int × Bool := if size x ≤ 60 ∧ most x ≤ 9999 then (row x, true) else ([], false)
theorem told_ev {x : O} (hx : size x ≤ 10000000000) : Tells (fun k => impl_told.f k x) (toldv x) := by
  unfold toldv
  refine Tells.bind (sizeOf_ev hx) ?_
  by_cases h : size x > 60
  · refine Tells.pos h ?_
    refine Tells.step (fun k => by rw [impl_told.j0]) ?_
    refine Tells.pos rfl ?_
    rw [if_neg (by omega)]; exact Tells.now _
  · refine Tells.neg h ?_
    refine Tells.bind (most_ev hx) ?_
    refine Tells.step (fun k => by rw [impl_told.j0]) ?_
    by_cases g : most x > 9999
    · refine Tells.pos (decide_eq_true g) ?_
      rw [if_neg (by omega)]; exact Tells.now _
    · refine Tells.neg (by simp; omega) ?_
      rw [if_pos (by omega)]
      refine Tells.bind (rowOf_ev hx) ?_
      exact Tells.now _

/-! #### reading a row: the program -/
theorem rd_zero (a : Int) (l : List Int) : rd (a :: l) 0 = a := rfl
theorem takeOrd_l {n : Nat} (ih : ∀ l : List Int, l.length < n → (l.length : Int) ≤ 100000000 → Tells (fun k => impl_takeOrd.f k l) (match take n l with | none => ([], [], false) | some (x, l') => (x, l', true))) :
    ∀ (c : Nat) (acc : O) (l : List Int) (last : Option O) (m : Int), l.length ≤ n → (l.length : Int) ≤ 100000000 → m = (acc.length : Int) + c → 0 ≤ m → m ≤ 60 → size acc + (l.length : Int) ≤ 200000000 →
      (∀ t a, acc = a ++ [t] → last = some t.f1) → (acc = [] → last = none) →
      Tells (fun k => impl_takeOrd.l0 k l acc m (acc.length : Int)) (match terms (take n) c last l with | none => ([], [], false) | some (x, l') => (acc ++ x, l', true)) := by
  intro c
  induction c with
  | zero =>
    intro acc l last m h1 h1' h2 h3 h4 hz h5 h6
    refine Tells.step (fun k => by rw [impl_takeOrd.l0]) ?_
    refine Tells.neg (by omega) ?_
    refine Tells.to (Tells.now _) ?_
    unfold terms; simp
  | succ c ihc =>
    intro acc l last m h1 h1' h2 h3 h4 hz h5 h6
    have hacc := size_pos acc
    refine Tells.step (fun k => by rw [impl_takeOrd.l0]) ?_
    refine Tells.pos (by omega) ?_
    have bad : Tells (fun k => impl_takeOrd.j2 k l acc (acc.length : Int) m (acc.length : Int) true) (([] : O), ([] : List Int), false) := by
      refine Tells.step (fun k => by rw [impl_takeOrd.j2]) ?_
      exact Tells.pos rfl (Tells.now _)
    cases l with
    | nil =>
      refine Tells.pos rfl ?_
      refine Tells.to bad ?_
      unfold terms; rfl
    | cons t l =>
      refine Tells.neg (by simp <;> omega) ?_
      refine Tells.pos (by simp <;> omega) ?_
      rw [rd_zero, terms]
      by_cases ht : t < 1
      · refine Tells.pos ht ?_
        refine Tells.to bad ?_
        rw [if_neg (by omega)]
      · refine Tells.neg ht ?_
        by_cases ht' : t > 9999
        · rw [decide_eq_true ht']
          refine Tells.to bad ?_
          rw [if_neg (by omega)]
        · rw [decide_eq_false ht', if_pos (by omega)]
          refine Tells.step (fun k => by rw [impl_takeOrd.j2]) ?_
          refine Tells.neg (by simp) ?_
          refine Tells.pos (by simp; omega) ?_
          simp only [List.length_cons] at h1 h1' hz
          refine Tells.bind (ih l (by omega) (by omega)) ?_
          cases hk : take n l with
          | none => exact Tells.neg (by simp) (Tells.now _)
          | some q =>
            obtain ⟨e, l1⟩ := q
            simp only
            refine Tells.pos trivial ?_
            have hlen := take_len hk
            obtain ⟨a1, a2, a3⟩ := take_good _ _ _ _ hk
            have hse : size e + (l1.length : Int) = (l.length : Int) := by
              have := row_length e
              rw [a1, List.length_append]; omega
            have go : ∀ last', last' = some e → Tells (fun k => if 0 < (((t :: l).length : Nat) : Int) then (if acc.length < 4398046511104 then (impl_takeOrd.l0 k l1 (acc ++ [(⟨rd (t :: l) 0, e⟩ : Tm)]) m (wrap64 ((acc.length : Int) + 1))) else none) else none)
                (match (match terms (take n) c last' l1 with | none => none | some (r, l'') => some ((⟨t, e⟩ : Tm) :: r, l'')) with | none => ([], [], false) | some (x, l') => (acc ++ x, l', true)) := by
              intro last' hl'
              refine Tells.pos (by simp <;> omega) ?_
              refine Tells.pos (by have := length_le_size acc; omega) ?_
              rw [rd_zero, wrap_id (by omega) (by omega)]
              have := ihc (acc ++ [⟨t, e⟩]) l1 last' m (by omega) (by omega) (by simp; omega) h3 h4 (by rw [size_append, size_cons, size_nil]; omega)
                (fun t' a ha => by
                  have := List.append_inj_right' ha rfl
                  injection this with this
                  rw [hl', ← this])
                (fun ha => by simp at ha)
              rw [show ((acc ++ [(⟨t, e⟩ : Tm)]).length : Int) = (acc.length : Int) + 1 by simp] at this
              refine Tells.to this ?_
              cases terms (take n) c last' l1 with
              | none => rfl
              | some q => obtain ⟨r, l2⟩ := q; simp
            rcases List.eq_nil_or_concat acc with hacc | ⟨a, t', hacc⟩
            · have hl := h6 hacc
              subst hl
              refine Tells.neg (by rw [hacc]; simp) ?_
              have : late none e = false := rfl
              rw [if_neg (by rw [this]; simp)]
              exact go (some e) rfl
            · rw [List.concat_eq_append] at hacc
              have hl := h5 t' a hacc
              have hp : (acc.length : Int) = (a.length : Int) + 1 := by rw [hacc]; simp
              refine Tells.pos (by omega) ?_
              rw [wrap_id (by omega) (by omega)]
              refine Tells.pos (by omega) ?_
              refine Tells.pos (by omega) ?_
              have hrd : rd_T69 acc ((acc.length : Int) - 1) = t' := by
                rw [hacc]; exact rdT_mid a [] t' (by simp)
              rw [hrd]
              have hst : size t'.f1 ≤ size acc := by
                obtain ⟨ct, et⟩ := t'
                have := size_pos a
                have := size_pos et
                rw [hacc, size_append, size_cons, size_nil]; show size et ≤ _; omega
              refine Tells.bind (compare_ev (by omega) (by omega)) ?_
              subst hl
              by_cases hc : cmp e t'.f1 ≥ 0
              · refine Tells.pos hc ?_
                have : late (some t'.f1) e = true := by unfold late; simp only [decide_eq_true_eq]; exact hc
                rw [if_pos this]
                exact Tells.now _
              · refine Tells.neg hc ?_
                have : ¬ late (some t'.f1) e = true := by unfold late; simp only [decide_eq_true_eq]; exact hc
                rw [if_neg this]
                exact go (some e) rfl
theorem takeOrd_ev : ∀ (n : Nat) (l : List Int), l.length < n → (l.length : Int) ≤ 100000000 → Tells (fun k => impl_takeOrd.f k l) (match take n l with | none => ([], [], false) | some (x, l') => (x, l', true)) := by
  intro n
  induction n with
  | zero => intro l h; omega
  | succ n ih =>
    intro l h h'
    refine Tells.step (fun k => by rw [impl_takeOrd.f]) ?_
    cases l with
    | nil => refine Tells.pos rfl ?_; unfold take; exact Tells.now _
    | cons m l =>
      simp only [List.length_cons] at h h'
      refine Tells.neg (by simp <;> omega) ?_
      refine Tells.pos (by simp <;> omega) ?_
      refine Tells.pos (by simp <;> omega) ?_
      refine Tells.sbind ?_
      refine Tells.sbind ?_
      rw [rd_zero, take]
      by_cases h1 : m < 0
      · refine Tells.pos h1 ?_
        refine Tells.step (fun k => by rw [impl_takeOrd.j0]) ?_
        refine Tells.pos rfl ?_
        rw [if_neg (by omega)]; exact Tells.now _
      · refine Tells.neg h1 ?_
        refine Tells.step (fun k => by rw [impl_takeOrd.j0]) ?_
        by_cases h2 : m > 60
        · refine Tells.pos (decide_eq_true h2) ?_
          rw [if_neg (by omega)]; exact Tells.now _
        · refine Tells.neg (by simp; omega) ?_
          rw [if_pos (by omega)]
          have := takeOrd_l ih m.toNat [] l none m (by omega) (by omega) (by simp; omega) (by omega) (by omega) (by rw [size_nil]; omega) (fun t a ha => by simp at ha) (fun _ => rfl)
          exact this
/-- what ordOf tells -/
def ordv (l : List Int) : O × Bool := match ordOf l with
  | some x => (x, true)
  | none => ((if 1 ≤ l.length ∧ l.length ≤ 60 then (match take 61 l with | some (x, _) => x | none => []) else []), false)
theorem ordOf_ev {l : List Int} : Tells (fun k => impl_ordOf.f k l) (ordv l) := by
  unfold ordv ordOf
  by_cases h1 : (l.length : Int) < 1
  · refine Tells.pos h1 ?_
    rw [if_neg (by omega), if_neg (by omega)]; exact Tells.now _
  · refine Tells.neg h1 ?_
    by_cases h2 : (l.length : Int) > 60
    · refine Tells.pos h2 ?_
      rw [if_neg (by omega), if_neg (by omega)]; exact Tells.now _
    · refine Tells.neg h2 ?_
      refine Tells.bind (takeOrd_ev 61 l (by omega) (by omega)) ?_
      have hc : 1 ≤ l.length ∧ l.length ≤ 60 := by omega
      rw [if_pos hc, if_pos hc]
      cases take 61 l with
      | none => exact Tells.neg (by simp) (Tells.now _)
      | some q =>
        obtain ⟨x, l'⟩ := q
        refine Tells.pos rfl ?_
        cases l' with
        | nil => exact Tells.now _
        | cons a l' => refine Tells.to (Tells.now _) ?_; simp; omega
end Go.Proofs.Ytpgkpahhohfmhaa.P

namespace Go.Proofs.Ytpgkpahhohfmhaa.P
open OM Go.RowKit Go.Proofs.YtpgkpahhohfmhaaW.PrintWords Go.Proofs.YtpgkpahhohfmhaaW.PrintLast Go.Proofs.YtpgkpahhohfmhaaW.PrintMore
set_option linter.unusedVariables false

/-! #### lists -/
theorem l1In_eq (a lo hi : Int) : spec_l1In.f a lo hi = some (decide (lo ≤ a ∧ a ≤ hi)) := by
  unfold spec_l1In.f
  split
  · next h => congr 1; by_cases g : a ≤ hi <;> simp [h, g] <;> omega
  · next h => congr 1; simp; omega
/-! #### the rows of ordinals: where they end, their terms -/
theorem span_l : ∀ (r : O) (p s : List Int) (m i : Int), m = i + r.length → 0 ≤ i → m ≤ 20000000000 → (((p ++ (flat r ++ s)).length : Nat) : Int) ≤ 10000000000 → Tells (fun k => spec_l1Span.l0 k (p ++ (flat r ++ s)) (p.length : Int) m i) ((p.length : Int) + (flat r).length) := by
  intro r
  induction r using ind with
  | h0 =>
    intro p s m i h1 h2 hm h3
    refine Tells.step (fun k => by rw [spec_l1Span.l0]) ?_
    refine Tells.neg (by simp at h1; omega) ?_
    refine Tells.to (Tells.now _) ?_
    rw [flat_nil]; simp
  | h1 c e r ihe ihr =>
    intro p s m i h1 h2 hm h3
    have h3' := h3
    rw [flat_cons] at h3' ⊢
    have hre : row e = (e.length : Int) :: flat e := rfl
    simp only [List.length_append, List.length_cons] at h3' h1
    rw [hre] at h3'
    simp only [List.length_append, List.length_cons] at h3'
    have hle := length_le_size e
    have hfe := flat_length e
    have hlr := length_le_size r
    have hfr := flat_length r
    refine Tells.step (fun k => by rw [spec_l1Span.l0]) ?_
    refine Tells.pos (by omega) ?_
    rw [wrap_id (i := (p.length : Int) + 1) (by omega) (by omega), wrap_id (i := i + 1) (by omega) (by omega)]
    have hsp : Tells (fun k => spec_l1Span.f k (p ++ ((c :: (row e ++ flat r)) ++ s)) ((p.length : Int) + 1)) ((p.length : Int) + 1 + (row e).length) := by
      refine Tells.step (fun k => by rw [spec_l1Span.f]) ?_
      refine Tells.pos (by omega) ?_
      refine Tells.pos (by simp [hre]; omega) ?_
      have hsplit : p ++ ((c :: (row e ++ flat r)) ++ s) = (p ++ [c]) ++ ((e.length : Int) :: (flat e ++ (flat r ++ s))) := by rw [hre]; simp
      rw [hsplit, rd_mid (p ++ [c]) _ (e.length : Int) (by simp), wrap_id (by omega) (by omega)]
      have := ihe (p ++ [c] ++ [(e.length : Int)]) (flat r ++ s) (e.length : Int) 0 (by omega) (by omega) (by omega) (by simp; omega)
      rw [show ((p ++ [c] ++ [(e.length : Int)]).length : Int) = (p.length : Int) + 1 + 1 by simp; omega] at this
      rw [snoc (p ++ [c])]
      refine Tells.to this ?_
      rw [hre]; simp only [List.length_cons]; omega
    refine Tells.bind hsp ?_
    have hsplit : p ++ ((c :: (row e ++ flat r)) ++ s) = (p ++ (c :: row e)) ++ (flat r ++ s) := by simp
    rw [hsplit]
    have := ihr (p ++ (c :: row e)) s m (i + 1) (by omega) (by omega) hm (by rw [← hsplit, ← flat_cons]; exact h3)
    rw [show ((p ++ (c :: row e)).length : Int) = (p.length : Int) + 1 + (row e).length by simp; omega] at this
    refine Tells.to this ?_
    simp only [List.length_cons, List.length_append]; omega
theorem span_ev (x : O) (p s : List Int) (h : (((p ++ (row x ++ s)).length : Nat) : Int) ≤ 10000000000) : Tells (fun k => spec_l1Span.f k (p ++ (row x ++ s)) (p.length : Int)) ((p.length : Int) + (row x).length) := by
  have hre : row x = (x.length : Int) :: flat x := rfl
  have h' := h
  rw [hre] at h' ⊢
  simp only [List.length_append, List.length_cons] at h'
  have hle := length_le_size x
  have hfe := flat_length x
  refine Tells.step (fun k => by rw [spec_l1Span.f]) ?_
  refine Tells.pos (by omega) ?_
  refine Tells.pos (by simp; omega) ?_
  rw [show p ++ ((x.length : Int) :: flat x ++ s) = p ++ ((x.length : Int) :: (flat x ++ s)) by simp, rd_mid p _ (x.length : Int) rfl, wrap_id (by omega) (by omega)]
  have := span_l x (p ++ [(x.length : Int)]) s (x.length : Int) 0 (by omega) (by omega) (by omega) (by simp; omega)
  rw [show ((p ++ [(x.length : Int)]).length : Int) = (p.length : Int) + 1 by simp] at this
  rw [snoc p]
  refine Tells.to this ?_
  simp only [List.length_cons]; omega
def cs (x : O) : List Int := x.map (·.f0)
def es (x : O) : List (List Int) := x.map (fun t => row t.f1)
theorem cs_length (x : O) : (cs x).length = x.length := by simp [cs]
theorem es_length (x : O) : (es x).length = x.length := by simp [es]
theorem cs_cons (c : Int) (e r : O) : cs (⟨c, e⟩ :: r) = c :: cs r := rfl
theorem es_cons (c : Int) (e r : O) : es (⟨c, e⟩ :: r) = row e :: es r := rfl
theorem cs_append (x y : O) : cs (x ++ y) = cs x ++ cs y := by simp [cs]
theorem es_append (x y : O) : es (x ++ y) = es x ++ es y := by simp [es]
theorem terms_l : ∀ (r : O) (p : List Int) (A : List Int) (B : List (List Int)), ((p ++ flat r).length : Int) ≤ 10000000000 → (A.length : Int) + r.length ≤ 20000000000 → (B.length : Int) + r.length ≤ 20000000000 →
    Tells (fun k => spec_l1Terms.l0 k (p ++ flat r) A B (p.length : Int)) (A ++ cs r, B ++ es r) := by
  intro r
  induction r with
  | nil =>
    intro p A B h1 h2 h3
    refine Tells.step (fun k => by rw [spec_l1Terms.l0]) ?_
    refine Tells.neg (by rw [flat_nil]; simp) ?_
    refine Tells.to (Tells.now _) ?_
    simp [cs, es]
  | cons t r ih =>
    intro p A B h1 h2 h3
    obtain ⟨c, e⟩ := t
    have h1' := h1
    rw [flat_cons] at h1' ⊢
    simp only [List.length_append, List.length_cons] at h1' h2 h3
    refine Tells.step (fun k => by rw [spec_l1Terms.l0]) ?_
    refine Tells.pos (by simp; omega) ?_
    rw [wrap_id (i := (p.length : Int) + 1) (by omega) (by omega)]
    have hsplit : p ++ (c :: (row e ++ flat r)) = (p ++ [c]) ++ (row e ++ flat r) := by simp
    have hsp : Tells (fun k => spec_l1Span.f k (p ++ (c :: (row e ++ flat r))) ((p.length : Int) + 1)) ((p.length : Int) + 1 + (row e).length) := by
      rw [hsplit]
      have := span_ev e (p ++ [c]) (flat r) (by simp; omega)
      rw [show ((p ++ [c]).length : Int) = (p.length : Int) + 1 by simp] at this
      exact this
    refine Tells.bind hsp ?_
    refine Tells.pos (by omega) ?_
    refine Tells.pos (by omega) ?_
    refine Tells.pos (by omega) ?_
    refine Tells.pos (by omega) ?_
    refine Tells.pos (by simp; omega) ?_
    refine Tells.pos (by omega) ?_
    rw [rd_mid p _ c rfl]
    have hcut : (((p ++ (c :: (row e ++ flat r))).take ((p.length : Int) + 1 + ((row e).length : Int)).toNat).drop ((p.length : Int) + 1).toNat) = row e := by
      rw [show ((p.length : Int) + 1 + ((row e).length : Int)).toNat = (p ++ [c]).length + (row e).length by simp; omega, show ((p.length : Int) + 1).toNat = (p ++ [c]).length by simp <;> omega, hsplit, List.take_length_add_append, List.take_left, List.drop_left]
    rw [hcut, show p ++ (c :: (row e ++ flat r)) = (p ++ (c :: row e)) ++ flat r by simp]
    have := ih (p ++ (c :: row e)) (A ++ [c]) (B ++ [row e]) (by simp; omega) (by simp; omega) (by simp; omega)
    rw [show ((p ++ (c :: row e)).length : Int) = (p.length : Int) + 1 + (row e).length by simp; omega] at this
    refine Tells.to this ?_
    rw [cs_cons, es_cons]; simp
theorem terms_ev {x : O} (h : size x ≤ 10000000000) : Tells (fun k => spec_l1Terms.f k (row x)) (cs x, es x) := by
  have hl := row_length x
  have hz := length_le_size x
  have := terms_l x [(x.length : Int)] [] [] (by show (((row x).length : Nat) : Int) ≤ _; omega) (by simp; omega) (by simp; omega)
  exact this
theorem make_l : ∀ (r : O) (A : List Int) (B : List (List Int)) (acc : List Int), A.length = B.length → (A.length : Int) + r.length ≤ 10000000000 → (acc.length : Int) + (flat r).length ≤ 20000000000 →
    Tells (fun k => spec_l1Make.l0 k (A ++ cs r) (B ++ es r) acc (A.length : Int)) (acc ++ flat r) := by
  intro r
  induction r with
  | nil =>
    intro A B acc h1 h2 h3
    refine Tells.step (fun k => by rw [spec_l1Make.l0]) ?_
    refine Tells.neg (by simp [cs]) ?_
    refine Tells.to (Tells.now _) ?_
    rw [flat_nil, List.append_nil]
  | cons t r ih =>
    intro A B acc h1 h2 h3
    obtain ⟨c, e⟩ := t
    rw [flat_cons] at h3
    simp only [List.length_append, List.length_cons] at h2 h3
    rw [cs_cons, es_cons]
    refine Tells.step (fun k => by rw [spec_l1Make.l0]) ?_
    refine Tells.pos (by simp; omega) ?_
    refine Tells.pos (by omega) ?_
    refine Tells.pos (by omega) ?_
    refine Tells.sbind ?_
    refine Tells.pos (by simp; omega) ?_
    rw [rd_mid A _ c rfl, rdL_mid B _ (row e) (by rw [h1])]
    refine Tells.pos (by simp; omega) ?_
    rw [wrap_id (by omega) (by omega), snoc A, snoc B]
    have := ih (A ++ [c]) (B ++ [row e]) (acc ++ [c] ++ row e) (by simp [h1]) (by simp; omega) (by simp; omega)
    rw [show ((A ++ [c]).length : Int) = (A.length : Int) + 1 by simp] at this
    refine Tells.to this ?_
    rw [flat_cons]; simp
theorem make_ev {x : O} (h : size x ≤ 10000000000) : Tells (fun k => spec_l1Make.f k (cs x) (es x)) (row x) := by
  have hl := flat_length x
  have hz := length_le_size x
  have := make_l x [] [] [((cs x).length : Int)] rfl (by simp; omega) (by simp; omega)
  refine Tells.to this ?_
  rw [cs_length]; rfl
theorem make_ev' {x : O} {A : List Int} {B : List (List Int)} (hA : A = cs x) (hB : B = es x) (h : size x ≤ 10000000000) : Tells (fun k => spec_l1Make.f k A B) (row x) := by subst hA; subst hB; exact make_ev h

/-! #### comparing rows -/
theorem specCompare_l : ∀ (r : O) (p q s : O), p.length = q.length → size (p ++ r) ≤ 500000000 → size (q ++ s) ≤ 500000000 →
    Tells (fun k => spec_l1Compare.l0 k (cs (p ++ r)) (es (p ++ r)) (cs (q ++ s)) (es (q ++ s)) (p.length : Int)) (cmp r s) := by
  intro r
  induction r using ind with
  | h0 =>
    intro p q s hl h1 h2
    refine Tells.step (fun k => by rw [spec_l1Compare.l0]) ?_
    refine Tells.neg (by rw [cs_length]; simp) ?_
    refine Tells.step (fun k => by rw [spec_l1Compare.j1]) ?_
    refine Tells.neg (by simp) ?_
    cases s with
    | nil =>
      refine Tells.neg (by rw [cs_length, cs_length]; simp; omega) ?_
      refine Tells.neg (by rw [cs_length, cs_length]; simp; omega) ?_
      rw [cmp_nn]; exact Tells.now _
    | cons t s =>
      refine Tells.pos (by rw [cs_length, cs_length]; simp; omega) ?_
      rw [cmp_nc]; exact Tells.now _
  | h1 c e r ihe ihr =>
    intro p q s hl h1 h2
    have hp := length_le_size p
    refine Tells.step (fun k => by rw [spec_l1Compare.l0]) ?_
    refine Tells.pos (by rw [cs_length]; simp; omega) ?_
    refine Tells.step (fun k => by rw [spec_l1Compare.j1]) ?_
    cases s with
    | nil =>
      refine Tells.neg (by rw [cs_length]; simp; omega) ?_
      refine Tells.neg (by rw [cs_length, cs_length]; simp; omega) ?_
      refine Tells.pos (by rw [cs_length, cs_length]; simp; omega) ?_
      rw [cmp_cn]; exact Tells.now _
    | cons t s =>
      obtain ⟨d, f⟩ := t
      have z1 := h1
      have z2 := h2
      rw [size_append, size_cons] at z1 z2
      have := size_pos r
      have := size_pos s
      have := size_pos p
      have := size_pos q
      have := size_pos e
      have := size_pos f
      refine Tells.pos (by rw [cs_length]; simp; omega) ?_
      refine Tells.pos (by omega) ?_
      refine Tells.pos (by rw [es_length]; simp; omega) ?_
      refine Tells.pos (by rw [es_length]; simp; omega) ?_
      have he : rd_L3 (es (p ++ ⟨c, e⟩ :: r)) (p.length : Int) = row e := by rw [es_append, es_cons]; exact rdL_mid _ _ _ (by rw [es_length])
      have hf : rd_L3 (es (q ++ ⟨d, f⟩ :: s)) (p.length : Int) = row f := by rw [es_append, es_cons]; exact rdL_mid _ _ _ (by rw [es_length, hl])
      have hc : rd (cs (p ++ ⟨c, e⟩ :: r)) (p.length : Int) = c := by rw [cs_append, cs_cons]; exact rd_mid _ _ _ (by rw [cs_length])
      have hd : rd (cs (q ++ ⟨d, f⟩ :: s)) (p.length : Int) = d := by rw [cs_append, cs_cons]; exact rd_mid _ _ _ (by rw [cs_length, hl])
      rw [he, hf, hc, hd]
      have hef : Tells (fun k => spec_l1Compare.f k (row e) (row f)) (cmp e f) := by
        refine Tells.step (fun k => by rw [spec_l1Compare.f]) ?_
        refine Tells.bind (terms_ev (by omega)) ?_
        refine Tells.bind (terms_ev (by omega)) ?_
        exact ihe [] [] f rfl (by show size e ≤ _; omega) (by show size f ≤ _; omega)
      refine Tells.bind hef ?_
      rw [cmp_cc]
      by_cases z : cmp e f = 0
      · refine Tells.pos z ?_
        rw [if_pos z]
        refine Tells.pos (by rw [cs_length]; simp; omega) ?_
        refine Tells.pos (by rw [cs_length]; simp; omega) ?_
        by_cases a : c = d
        · refine Tells.pos a ?_
          rw [if_neg (by omega), if_neg (by omega), wrap_id (by omega) (by omega), snoc p, snoc q]
          have := ihr (p ++ [⟨c, e⟩]) (q ++ [⟨d, f⟩]) s (by simp [hl]) (by rw [← snoc]; exact h1) (by rw [← snoc]; exact h2)
          rw [show ((p ++ [(⟨c, e⟩ : Tm)]).length : Int) = (p.length : Int) + 1 by simp] at this
          exact this
        · refine Tells.neg a ?_
          by_cases b : c < d
          · refine Tells.pos b ?_
            rw [if_pos b]; exact Tells.now _
          · refine Tells.neg b ?_
            rw [if_neg b, if_pos (by omega)]; exact Tells.now _
      · refine Tells.neg z ?_
        rw [if_neg z]; exact Tells.now _
theorem specCompare_ev {x y : O} (hx : size x ≤ 500000000) (hy : size y ≤ 500000000) : Tells (fun k => spec_l1Compare.f k (row x) (row y)) (cmp x y) := by
  refine Tells.step (fun k => by rw [spec_l1Compare.f]) ?_
  refine Tells.bind (terms_ev (by omega)) ?_
  refine Tells.bind (terms_ev (by omega)) ?_
  exact specCompare_l x [] [] y rfl hx hy
end Go.Proofs.Ytpgkpahhohfmhaa.P

namespace Go.Proofs.Ytpgkpahhohfmhaa.P
open OM Go.RowKit Go.Proofs.YtpgkpahhohfmhaaW.PrintWords Go.Proofs.YtpgkpahhohfmhaaW.PrintLast Go.Proofs.YtpgkpahhohfmhaaW.PrintMore
set_option linter.unusedVariables false
/-! #### numbers -/
def num (c : Int) : O := if c = 0 then [] else [⟨c, []⟩]
theorem row_num_zero : row (num 0) = [0] := by unfold num; rw [if_pos rfl, row_nil]
theorem row_num {c : Int} (h : c ≠ 0) : row (num c) = [1, c, 0] := by unfold num; rw [if_neg h]; unfold row; rw [flat_cons, row_nil, flat_nil]; rfl
theorem size_num (c : Int) : size (num c) ≤ 3 := by unfold num; split <;> simp only [size_cons, size_nil] <;> omega
theorem number_eq (c : Int) : impl_number.f c = some (num c) := by unfold impl_number.f num; split <;> rfl
def ofv (a : Int) : List Int := if 0 ≤ a ∧ a ≤ 9999 then row (num a) else []
theorem ofv_length (a : Int) : ((ofv a).length : Int) ≤ 3 := by
  unfold ofv
  split
  · rw [row_length]; exact size_num a
  · simp
theorem specOrdOf_eq (a : Int) : spec_OrdOf.f a = some (ofv a) := by
  unfold spec_OrdOf.f ofv
  rw [l1In_eq]
  show (if decide (0 ≤ a ∧ a ≤ 9999) = true then _ else _) = _
  by_cases h : 0 ≤ a ∧ a ≤ 9999
  · rw [if_pos (decide_eq_true h), if_pos h]
    by_cases z : a = 0
    · subst z; rw [if_pos rfl, row_num_zero]
    · rw [if_neg z, row_num z]
  · rw [if_neg (by simp; omega), if_neg h]
theorem implOrdOf_ev {a : Int} : Tells (fun k => impl_OrdOf.f k a) (ofv a) := by
  have bad : ¬ (0 ≤ a ∧ a ≤ 9999) → Tells (fun k => impl_OrdOf.j0 k a true) (ofv a) := by
    intro h
    refine Tells.step (fun k => by rw [impl_OrdOf.j0]) ?_
    unfold ofv; rw [if_neg h]
    exact Tells.pos rfl (Tells.now _)
  by_cases h1 : a < 0
  · exact Tells.pos h1 (bad (by omega))
  · refine Tells.neg h1 ?_
    by_cases h2 : a > 9999
    · rw [decide_eq_true h2]; exact bad (by omega)
    · rw [decide_eq_false h2]
      refine Tells.step (fun k => by rw [impl_OrdOf.j0]) ?_
      refine Tells.neg (by simp) ?_
      refine Tells.bind (Tells.const (number_eq a)) ?_
      have := size_num a
      unfold ofv; rw [if_pos (by omega)]
      exact Tells.bind (rowOf_ev (by omega)) (Tells.now _)
end Go.Proofs.Ytpgkpahhohfmhaa.P

namespace Go.Proofs.Ytpgkpahhohfmhaa.P
open OM Go.RowKit Go.Proofs.YtpgkpahhohfmhaaW.PrintWords Go.Proofs.YtpgkpahhohfmhaaW.PrintLast Go.Proofs.YtpgkpahhohfmhaaW.PrintMore
set_option linter.unusedVariables false

theorem sameInts_l : ∀ (a b p q : List Int), p.length = q.length → a.length = b.length → ((p ++ a).length : Int) ≤ 4000000000000000000 → Tells (fun k => laws_sameInts.l0 k (p ++ a) (q ++ b) (p.length : Int)) (decide (a = b)) := by
  intro a
  induction a with
  | nil =>
    intro b p q h1 h2 h3
    cases b with
    | cons _ _ => simp at h2
    | nil =>
      refine Tells.step (fun k => by rw [laws_sameInts.l0]) ?_
      exact Tells.neg (by simp) (Tells.now _)
  | cons x a ih =>
    intro b p q h1 h2 h3
    cases b with
    | nil => simp at h2
    | cons y b =>
      have h3' := h3
      simp only [List.length_append, List.length_cons] at h3'
      refine Tells.step (fun k => by rw [laws_sameInts.l0]) ?_
      refine Tells.pos (by simp; omega) ?_
      refine Tells.pos (by omega) ?_
      refine Tells.pos (by simp; omega) ?_
      rw [rd_mid p a x rfl, rd_mid q b y (by rw [h1])]
      by_cases h : x = y
      · refine Tells.pos h ?_
        rw [wrap_id (by omega) (by omega), snoc p, snoc q]
        have := ih b (p ++ [x]) (q ++ [y]) (by simp [h1]) (by simpa using h2) (by rw [← snoc]; exact h3)
        rw [show ((p ++ [x]).length : Int) = (p.length : Int) + 1 by simp] at this
        refine Tells.to this ?_
        simp [h]
      · refine Tells.neg h ?_
        refine Tells.to (Tells.now _) ?_
        simp [h]
theorem sameInts_ev {a b : List Int} (h : (a.length : Int) ≤ 4000000000000000000) : Tells (fun k => laws_sameInts.f k a b) (decide (a = b)) := by
  by_cases hl : (a.length : Int) = (b.length : Int)
  · exact Tells.pos hl (sameInts_l a b [] [] rfl (by omega) (by simpa using h))
  · refine Tells.neg hl ?_
    refine Tells.to (Tells.now _) ?_
    symm
    rw [decide_eq_false_iff_not]
    intro h; rw [h] at hl; exact hl rfl
theorem alive_ev : Tells (fun k => laws_alive.f k) true := by
  have h0 : ofv 0 = [0] := by unfold ofv; rw [if_pos (by omega), row_num_zero]
  have h7 : ofv 7 = [1, 7, 0] := by unfold ofv; rw [if_pos (by omega), row_num (by omega)]
  refine Tells.bind (implOrdOf_ev (a := 0)) ?_
  rw [h0]
  refine Tells.pos rfl ?_
  refine Tells.bind (implOrdOf_ev (a := 7)) ?_
  rw [h7]
  exact Tells.now _
end Go.Proofs.Ytpgkpahhohfmhaa.P

namespace Go.Proofs.Ytpgkpahhohfmhaa.P
open OM Go.RowKit Go.Proofs.YtpgkpahhohfmhaaW.PrintWords Go.Proofs.YtpgkpahhohfmhaaW.PrintLast Go.Proofs.YtpgkpahhohfmhaaW.PrintMore
set_option linter.unusedVariables false

/-! #### plain arithmetic -/
theorem tdiv_ediv {a b : Int} (ha : 0 ≤ a) : Int.tdiv a b = a / b := Int.tdiv_eq_ediv_of_nonneg ha
theorem tmod_emod {a b : Int} (ha : 0 ≤ a) : Int.tmod a b = a % b := Int.tmod_eq_emod_of_nonneg ha
theorem pow_lt_iff {b : Int} (hb : 2 ≤ b) {j k : Nat} (h : b ^ j < b ^ k) : j < k := by
  by_cases g : j < k
  · exact g
  · have := pow_mono (n := b) (by omega) (show k ≤ j by omega)
    omega
theorem pow_step {b : Int} (j : Nat) : b ^ (j + 1) = b ^ j * b := Int.pow_succ b j
theorem pow_base {a b : Int} (h0 : 0 ≤ a) (h : a ≤ b) (n : Nat) : a ^ n ≤ b ^ n := by
  induction n with
  | zero => simp
  | succ n ih => rw [pow_step, pow_step]; exact Int.mul_le_mul ih h h0 (Int.le_trans (Int.pow_nonneg h0) ih)
theorem pow_gt {b : Int} (hb : 2 ≤ b) (j : Nat) : (j : Int) < b ^ j := by
  induction j with
  | zero => simp
  | succ j ih =>
    rw [pow_step]
    have h1 := pow_pos (n := b) (by omega) j
    have : b ^ j * 2 ≤ b ^ j * b := Int.mul_le_mul_of_nonneg_left hb (by omega)
    simp only [Int.natCast_succ]
    omega
theorem two_le_pow {b : Int} (hb : 2 ≤ b) (j : Nat) : (j : Int) + 1 ≤ b ^ j := pow_gt hb j
theorem NF_snoc {e : O} {d : Int} (hd : 1 ≤ d) (he : NF e) : ∀ {y : O}, NF y → (∀ y' t, y = y' ++ [t] → Lt e t.f1) → NF (y ++ [⟨d, e⟩]) := by
  intro y
  induction y with
  | nil => intro _ _; exact NF_cons.2 ⟨hd, he, NF_nil, trivial⟩
  | cons t r ih =>
    intro h1 h2
    obtain ⟨c, f⟩ := t
    obtain ⟨g1, g2, g3, g4⟩ := NF_cons.1 h1
    refine NF_cons.2 ⟨g1, g2, ih g3 (fun y' t h => h2 (⟨c, f⟩ :: y') t (by rw [h]; rfl)), ?_⟩
    cases r with
    | nil => exact h2 [] ⟨c, f⟩ rfl
    | cons u s => obtain ⟨g, k⟩ := u; exact g4
theorem most_append (x y : O) : most (x ++ y) = max (most x) (most y) := by
  induction x with
  | nil => rw [most_nil]; show most y = _; have := most_pos y; omega
  | cons t r ih => obtain ⟨c, e⟩ := t; show most (⟨c, e⟩ :: (r ++ y)) = _; rw [most_cons, most_cons, ih]; omega
/-- the ordinal of a number in a base -/
structure IB (b n : Int) (x : O) : Prop where
  nf : NF x
  most : most x < b
  val : val b x = n
  size : size x ≤ 2 * n + 1
theorem IB.uniq {b n : Int} {x y : O} (hb : 2 ≤ b) (hx : IB b n x) (hy : IB b n y) : x = y :=
  val_inj (by omega) hx.nf hy.nf hx.most hy.most (by rw [hx.val, hy.val])
theorem IB.lt {b n m : Int} {x y : O} (hb : 2 ≤ b) (hx : IB b n x) (hy : IB b m y) (h : n < m) : Lt x y := by
  show cmp x y = -1
  rw [val_cmp (by omega) hx.nf hy.nf hx.most hy.most, hx.val, hy.val, if_pos h]
/-- what has been told of a number: y, and n is left -/
structure Part (b N n : Int) (y : O) : Prop where
  nf : NF y
  most : most y < b
  val : OM.val b y + n = N
  size : size y + 2 * n ≤ 2 * N + 1
  last : ∀ y' t, y = y' ++ [t] → n < b ^ (OM.val b t.f1).toNat
theorem Part.start {b N : Int} (hb : 2 ≤ b) : Part b N N [] := ⟨NF_nil, by rw [most_nil]; omega, by rw [val_nil]; omega, by rw [size_nil]; omega, fun y' t h => by simp at h⟩
theorem Part.done {b N : Int} {y : O} (h : Part b N 0 y) : IB b N y := ⟨h.nf, h.most, by have := h.val; omega, by have := h.size; omega⟩
/-- one power more -/
theorem Part.step {b N n : Int} {y e : O} {j : Nat} (hb : 2 ≤ b) (h : Part b N n y) (hn : b ^ j ≤ n) (hn' : n < b ^ (j + 1)) (he : IB b (j : Int) e) : Part b N (n % b ^ j) (y ++ [⟨n / b ^ j, e⟩]) := by
  have hp := pow_pos (n := b) (by omega) j
  have hd1 : 1 ≤ n / b ^ j := by rw [Int.le_ediv_iff_mul_le (by omega)]; omega
  have hd2 : n / b ^ j < b := by
    rw [Int.ediv_lt_iff_lt_mul (by omega)]
    rw [pow_step, Int.mul_comm] at hn'
    exact hn'
  have hm := Int.mul_ediv_add_emod n (b ^ j)
  have hm0 := Int.emod_nonneg n (show b ^ j ≠ 0 by omega)
  have hm1 := Int.emod_lt_of_pos n (show 0 < b ^ j by omega)
  refine ⟨?_, ?_, ?_, ?_, ?_⟩
  · refine NF_snoc hd1 he.nf h.nf (fun y' t hy => ?_)
    obtain ⟨c, f⟩ := t
    have hl := h.last y' ⟨c, f⟩ hy
    have hf := NF_append_last (by rw [← hy]; exact h.nf)
    have hmf : OM.most f < b := by
      have := h.most
      rw [hy, most_append, most_cons] at this
      omega
    have hv := val_nonneg (n := b) (by omega) hf.2
    have hlt : j < (OM.val b f).toNat := pow_lt_iff hb (show b ^ j < _ by simp only at hl; omega)
    show cmp e f = -1
    rw [val_cmp (by omega) he.nf hf.2 he.most hmf, he.val, if_pos (by omega)]
  · have h1 := h.most
    have h2 := he.most
    rw [most_append, most_cons, most_nil]
    omega
  · rw [val_append, val_cons, val_nil, he.val, Int.toNat_natCast]
    have := h.val
    have : n / b ^ j * b ^ j = b ^ j * (n / b ^ j) := Int.mul_comm _ _
    omega
  · have h1 := h.size
    have h2 := he.size
    have h3 := pow_gt hb j
    have h4 : b ^ j ≤ b ^ j * (n / b ^ j) := by
      have := Int.mul_le_mul_of_nonneg_left hd1 (show 0 ≤ b ^ j by omega)
      omega
    rw [size_append, size_cons, size_nil]
    omega
  · intro y' t hy
    have := List.append_inj_right' hy rfl
    injection this with this
    rw [← this]
    show _ < b ^ (OM.val b e).toNat
    rw [he.val, Int.toNat_natCast]
    exact hm1

/-! #### the reference -/
theorem l4pow {b n : Int} (hb : 2 ≤ b) (hb' : b ≤ 90) (hn' : n ≤ 1000000000) {A : List Int} {B : List (List Int)} {r : List Int} :
    ∀ (d : Nat) (j : Nat), b ^ j ≤ n → (n - b ^ j).toNat < d → (∀ i : Nat, b ^ i ≤ n → n < b ^ (i + 1) → Tells (fun k => spec_l4Ord.l1 k n b A B (b ^ i) (i : Int)) r) → Tells (fun k => spec_l4Ord.l1 k n b A B (b ^ j) (j : Int)) r := by
  intro d
  induction d with
  | zero => intro j h1 h2 h3; omega
  | succ d ih =>
    intro j h1 h2 h3
    by_cases h : n < b ^ (j + 1)
    · exact h3 j h1 h
    · have hp := pow_pos (n := b) (by omega) j
      have hg := pow_gt hb j
      have hs := pow_step (b := b) j
      have hlt : b ^ j * 2 ≤ b ^ j * b := Int.mul_le_mul_of_nonneg_left hb (by omega)
      refine Tells.step (fun k => by rw [spec_l4Ord.l1]) ?_
      refine Tells.neg (by omega) ?_
      have hq : b ^ j ≤ n / b := by rw [Int.le_ediv_iff_mul_le (by omega)]; omega
      have hqn : n / b ≤ n := Int.ediv_le_self _ (by omega)
      rw [tdiv_ediv (by omega), wrap_id (i := n / b) (by omega) (by omega)]
      refine Tells.pos hq ?_
      have hbb : b ^ j * b ≤ n := by omega
      rw [wrap_id (i := b ^ j * b) (by omega) (by omega), wrap_id (i := (j : Int) + 1) (by omega) (by omega), ← hs]
      have := ih (j + 1) (by omega) (by omega) h3
      rw [show ((j + 1 : Nat) : Int) = (j : Int) + 1 by simp] at this
      exact this
theorem l4_l {b N : Int} (hb : 2 ≤ b) (hb' : b ≤ 90) (hN : N ≤ 1000000000) (ih : ∀ e : Int, 0 ≤ e → e < N → ∃ x, IB b e x ∧ Tells (fun k => spec_l4Ord.f k e b) (row x)) :
    ∀ (d : Nat) (n : Int) (y : O), 0 ≤ n → n.toNat < d → n ≤ N → Part b N n y → (y.length : Int) + n ≤ 2000000000 → ∃ x, IB b N x ∧ Tells (fun k => spec_l4Ord.l0 k n b (cs y) (es y)) (row x) := by
  intro d
  induction d with
  | zero => intro n y h0 h1; omega
  | succ d ihd =>
    intro n y h0 h1 hnN hp hl
    by_cases h : n > 0
    · obtain ⟨j, hj1, hj2⟩ : ∃ j : Nat, b ^ j ≤ n ∧ n < b ^ (j + 1) := by
        have : ∀ (m : Nat), (∃ j : Nat, b ^ j ≤ n ∧ n < b ^ (j + 1)) ∨ b ^ m ≤ n := by
          intro m
          induction m with
          | zero => exact .inr (by simp; omega)
          | succ m ihm =>
            rcases ihm with h | h
            · exact .inl h
            · by_cases g : n < b ^ (m + 1)
              · exact .inl ⟨m, h, g⟩
              · exact .inr (by omega)
        rcases this n.toNat with h | h
        · exact h
        · have := pow_gt hb n.toNat; omega
      have hg := pow_gt hb j
      obtain ⟨e, he, hte⟩ := ih (j : Int) (by omega) (by omega)
      have hp' := hp.step hb hj1 hj2 he
      have hpp := pow_pos (n := b) (by omega) j
      have hm0 := Int.emod_nonneg n (show b ^ j ≠ 0 by omega)
      have hm1 := Int.emod_lt_of_pos n (show 0 < b ^ j by omega)
      have hdn : n / b ^ j ≤ n := Int.ediv_le_self _ (by omega)
      have hd0 : 0 ≤ n / b ^ j := Int.ediv_nonneg (by omega) (by omega)
      obtain ⟨x, hx, htx⟩ := ihd (n % b ^ j) (y ++ [⟨n / b ^ j, e⟩]) hm0 (by omega) (by omega) hp' (by simp; omega)
      refine ⟨x, hx, ?_⟩
      refine Tells.step (fun k => by rw [spec_l4Ord.l0]) ?_
      refine Tells.pos h ?_
      have := l4pow (A := cs y) (B := es y) (r := row x) hb hb' (by omega) (n.toNat + 1) 0 (n := n) (by simp; omega) (by simp; omega) (fun i hi1 hi2 => ?_)
      · simpa using this
      · have hij : i = j := by
          have h1 := pow_lt_iff hb (show b ^ i < b ^ (j + 1) by omega)
          have h2 := pow_lt_iff hb (show b ^ j < b ^ (i + 1) by omega)
          omega
        subst hij
        have hp := pow_pos (n := b) (by omega) i
        have hs := pow_step (b := b) i
        have hq : ¬ b ^ i ≤ n / b := by
          intro hc
          rw [Int.le_ediv_iff_mul_le (by omega)] at hc; omega
        have hqn : n / b ≤ n := Int.ediv_le_self _ (by omega)
        have hq0 : 0 ≤ n / b := Int.ediv_nonneg (by omega) (by omega)
        refine Tells.step (fun k => by rw [spec_l4Ord.l1]) ?_
        refine Tells.neg (by omega) ?_
        rw [tdiv_ediv (by omega), wrap_id (i := n / b) (by omega) (by omega)]
        refine Tells.neg hq ?_
        refine Tells.neg (by omega) ?_
        refine Tells.pos (by rw [cs_length]; omega) ?_
        refine Tells.bind hte ?_
        refine Tells.pos (by rw [es_length]; omega) ?_
        rw [tmod_emod (by omega), tdiv_ediv (by omega), wrap_id (by omega) (by omega)]
        rw [show cs y ++ [n / b ^ i] = cs (y ++ [⟨n / b ^ i, e⟩]) by rw [cs_append]; rfl, show es y ++ [row e] = es (y ++ [⟨n / b ^ i, e⟩]) by rw [es_append]; rfl]
        exact htx
    · have h0' : n = 0 := by omega
      subst h0'
      have hx := hp.done
      refine ⟨y, hx, ?_⟩
      refine Tells.step (fun k => by rw [spec_l4Ord.l0]) ?_
      refine Tells.neg h ?_
      have := hx.size
      exact Tells.bind (make_ev (by omega)) (Tells.now _)
theorem l4Ord_ev {b : Int} (hb : 2 ≤ b) (hb' : b ≤ 90) : ∀ (d : Nat) (N : Int), 0 ≤ N → N.toNat < d → N ≤ 1000000000 → ∃ x, IB b N x ∧ Tells (fun k => spec_l4Ord.f k N b) (row x) := by
  intro d
  induction d with
  | zero => intro N h0 h1; omega
  | succ d ih =>
    intro N h0 h1 h2
    obtain ⟨x, hx, ht⟩ := l4_l hb hb' h2 (fun e he0 he1 => ih e he0 (by omega) (by omega)) (N.toNat + 1) N [] h0 (by omega) (by omega) (Part.start hb) (by simp; omega)
    exact ⟨x, hx, Tells.step (fun k => by rw [spec_l4Ord.f]; rfl) ht⟩

/-! #### digits -/
def dval (b : Int) : List Int → Int
  | [] => 0
  | d :: l => d + b * dval b l
theorem dval_append (b : Int) (l m : List Int) : dval b (l ++ m) = dval b l + b ^ l.length * dval b m := by
  induction l with
  | nil => simp [dval]
  | cons d l ih => simp only [List.cons_append, dval, ih, List.length_cons, pow_step, Int.mul_add, ← Int.mul_assoc]; rw [Int.mul_comm b (b ^ l.length)]; omega
structure Digs (b n : Int) (ds : List Int) : Prop where
  lo : ∀ d ∈ ds, 0 ≤ d ∧ d < b
  val : dval b ds = n
  top : ∀ ds' d, ds = ds' ++ [d] → 1 ≤ d
theorem dval_lt {b : Int} (hb : 2 ≤ b) : ∀ (l : List Int), (∀ d ∈ l, 0 ≤ d ∧ d < b) → 0 ≤ dval b l ∧ dval b l < b ^ l.length := by
  intro l
  induction l with
  | nil => intro _; simp [dval]
  | cons d l ih =>
    intro h
    obtain ⟨h1, h2⟩ := ih (fun x hx => h x (by simp [hx]))
    have hd := h d (by simp)
    have hm : 0 ≤ b * dval b l := Int.mul_nonneg (by omega) h1
    have hm2 : b * (dval b l + 1) ≤ b * b ^ l.length := Int.mul_le_mul_of_nonneg_left (by omega) (by omega)
    rw [Int.mul_add] at hm2
    simp only [dval, List.length_cons, pow_step]
    rw [Int.mul_comm (b ^ l.length) b]
    omega
theorem digits_l {b : Int} (hb : 2 ≤ b) (hb' : b ≤ 90) : ∀ (d : Nat) (n : Int) (acc : List Int), 0 ≤ n → n.toNat < d → n ≤ 1000000000 → (acc.length : Int) + n ≤ 2000000000 →
    ∃ ds, Digs b n ds ∧ (ds.length : Int) ≤ n ∧ Tells (fun k => impl_digits.l0 k n b acc) (acc ++ ds) := by
  intro d
  induction d with
  | zero => intro n acc h0 h1; omega
  | succ d ih =>
    intro n acc h0 h1 h2 h3
    by_cases h : n > 0
    · have hq0 : 0 ≤ n / b := Int.ediv_nonneg (by omega) (by omega)
      have hqlt : n / b < n := Int.ediv_lt_of_lt_mul (by omega) (by have := Int.mul_le_mul_of_nonneg_left hb (show 0 ≤ n by omega); omega)
      have hm0 := Int.emod_nonneg n (show b ≠ 0 by omega)
      have hm1 := Int.emod_lt_of_pos n (show 0 < b by omega)
      have hme := Int.mul_ediv_add_emod n b
      obtain ⟨ds, hds, hlen, ht⟩ := ih (n / b) (acc ++ [n % b]) hq0 (by omega) (by omega) (by simp; omega)
      refine ⟨n % b :: ds, ⟨?_, ?_, ?_⟩, by simp; omega, ?_⟩
      · intro x hx
        rcases List.mem_cons.1 hx with hx | hx
        · subst hx; exact ⟨hm0, hm1⟩
        · exact hds.lo x hx
      · simp only [dval, hds.val]; omega
      · intro ds' t ht
        cases ds' with
        | nil =>
          have : n % b = t ∧ ds = [] := by simpa using ht
          have hv := hds.val
          rw [this.2] at hv
          simp [dval] at hv
          rw [← hv] at hme
          omega
        | cons u v =>
          have : n % b = u ∧ ds = v ++ [t] := by simpa using ht
          exact hds.top v t this.2
      · refine Tells.step (fun k => by rw [impl_digits.l0]) ?_
        refine Tells.pos h ?_
        refine Tells.neg (by omega) ?_
        refine Tells.pos (by omega) ?_
        rw [tdiv_ediv (by omega), tmod_emod (by omega), wrap_id (by omega) (by omega)]
        refine Tells.to ht (by simp)
    · have h0' : n = 0 := by omega
      subst h0'
      refine ⟨[], ⟨fun d hd => by simp at hd, rfl, fun ds' d h => by simp at h⟩, by simp, ?_⟩
      refine Tells.step (fun k => by rw [impl_digits.l0]) ?_
      exact Tells.neg h (Tells.to (Tells.now _) (by simp))
theorem digits_ev {b n : Int} (hb : 2 ≤ b) (hb' : b ≤ 90) (h0 : 0 ≤ n) (hn : n ≤ 1000000000) : ∃ ds, Digs b n ds ∧ (ds.length : Int) ≤ n ∧ Tells (fun k => impl_digits.f k n b) ds := by
  obtain ⟨ds, h1, h2, h3⟩ := digits_l hb hb' (n.toNat + 1) n [] h0 (by omega) hn (by simp; omega)
  exact ⟨ds, h1, h2, h3⟩
theorem Digs.len {b n : Int} {ds : List Int} (hb : 2 ≤ b) (h : Digs b n ds) (hne : ds ≠ []) : b ^ (ds.length - 1) ≤ n := by
  rcases List.eq_nil_or_concat ds with h' | ⟨l, t, h'⟩
  · exact absurd h' hne
  · rw [List.concat_eq_append] at h'
    have ht := h.top l t h'
    have hv := h.val
    rw [h', dval_append] at hv
    have hl := dval_lt hb l (fun d hd => h.lo d (by rw [h']; simp [hd]))
    have hp := pow_pos (n := b) (by omega) l.length
    have : b ^ l.length * 1 ≤ b ^ l.length * t := Int.mul_le_mul_of_nonneg_left ht (by omega)
    rw [h']
    simp [dval] at hv ⊢
    omega

/-! #### the program -/
theorem inBase_l {b N : Int} (hb : 2 ≤ b) (hb' : b ≤ 90) (hN : N ≤ 1000000000) (ih : ∀ e : Int, 0 ≤ e → e < N → ∃ x, IB b e x ∧ Tells (fun k => impl_inBase.f k e b) x) :
    ∀ (lo hi : List Int) (y : O), (∀ d ∈ lo, 0 ≤ d ∧ d < b) → (∀ i : Nat, i < lo.length → (i : Int) < N) → Part b N (dval b lo) y → (y.length : Int) + lo.length ≤ 2000000000 →
      ∃ x, IB b N x ∧ Tells (fun k => impl_inBase.l0 k b y (lo ++ hi) ((lo.length : Int) - 1)) x := by
  intro lo
  induction h : lo.length generalizing lo with
  | zero =>
    intro hi y h1 h2 hp hl
    have : lo = [] := List.eq_nil_of_length_eq_zero h
    subst this
    have hp0 : Part b N 0 y := hp
    have hx := hp0.done
    refine ⟨y, hx, ?_⟩
    refine Tells.step (fun k => by rw [impl_inBase.l0]) ?_
    exact Tells.neg (by simp) (Tells.now _)
  | succ n ihn =>
    intro hi y h1 h2 hp hl
    rcases List.eq_nil_or_concat lo with h' | ⟨l, t, h'⟩
    · rw [h'] at h; simp at h
    · rw [List.concat_eq_append] at h'
      subst h'
      have hln : l.length = n := by simpa using h
      have ht := h1 t (by simp)
      have hv : dval b (l ++ [t]) = dval b l + b ^ n * t := by rw [dval_append, hln]; simp [dval]
      have hll := dval_lt hb l (fun d hd => h1 d (by simp [hd]))
      rw [hln] at hll
      have hpp := pow_pos (n := b) (by omega) n
      have hnN := h2 n (by omega)
      have hrd : rd ((l ++ [t]) ++ hi) ((n : Int) + 1 - 1) = t := by
        rw [List.append_assoc]; exact rd_mid l hi t (by omega)
      have htp : 0 ≤ b ^ n * t := Int.mul_nonneg (by omega) (by omega)
      have fin : ∀ y', Part b N (dval b l) y' → (y'.length : Int) + n ≤ 2000000000 → ∃ x, IB b N x ∧ Tells (fun k => impl_inBase.l0 k b y' ((l ++ [t]) ++ hi) (wrap64 ((n : Int) + 1 - 1 - 1))) x := by
        intro y' hp' hl'
        rw [wrap_id (by omega) (by omega), List.append_assoc]
        have := ihn l hln ([t] ++ hi) y' (fun d hd => h1 d (by simp [hd])) (fun i hi => h2 i (by omega)) hp' (by omega)
        rw [show (n : Int) + 1 - 1 - 1 = (n : Int) - 1 by omega]
        exact this
      by_cases hz : t > 0
      · obtain ⟨e, he, hte⟩ := ih (n : Int) (by omega) hnN
        have hn1 : b ^ n ≤ dval b (l ++ [t]) := by
          have : b ^ n * 1 ≤ b ^ n * t := Int.mul_le_mul_of_nonneg_left (by omega) (by omega)
          omega
        have hn2 : dval b (l ++ [t]) < b ^ (n + 1) := by
          have : b ^ n * (t + 1) ≤ b ^ n * b := Int.mul_le_mul_of_nonneg_left (by omega) (by omega)
          rw [Int.mul_add] at this
          rw [pow_step]; omega
        have hp' := hp.step hb hn1 hn2 he
        have hmod : dval b (l ++ [t]) % b ^ n = dval b l := by
          rw [hv, Int.add_mul_emod_self_left, Int.emod_eq_of_lt hll.1 hll.2]
        have hdiv : dval b (l ++ [t]) / b ^ n = t := by
          rw [hv, Int.add_mul_ediv_left _ _ (show b ^ n ≠ 0 by omega), Int.ediv_eq_zero_of_lt hll.1 hll.2]; omega
        rw [hmod, hdiv] at hp'
        obtain ⟨x, hx, htx⟩ := fin (y ++ [⟨t, e⟩]) hp' (by simp; omega)
        refine ⟨x, hx, ?_⟩
        refine Tells.step (fun k => by rw [impl_inBase.l0]) ?_
        refine Tells.pos (by simp <;> omega) ?_
        refine Tells.pos (by simp <;> omega) ?_
        refine Tells.pos (by simp <;> omega) ?_
        rw [show (((n + 1 : Nat) : Int) - 1) = (n : Int) + 1 - 1 by simp, hrd]
        refine Tells.pos hz ?_
        rw [show (n : Int) + 1 - 1 = (n : Int) by omega]
        refine Tells.bind hte ?_
        refine Tells.pos (by omega) ?_
        rw [show (n : Int) + 1 - 1 - 1 = (n : Int) - 1 by omega] at htx
        exact htx
      · have ht0 : t = 0 := by omega
        subst ht0
        have hp' : Part b N (dval b l) y := by rw [hv] at hp; simpa using hp
        obtain ⟨x, hx, htx⟩ := fin y hp' (by omega)
        refine ⟨x, hx, ?_⟩
        refine Tells.step (fun k => by rw [impl_inBase.l0]) ?_
        refine Tells.pos (by simp <;> omega) ?_
        refine Tells.pos (by simp <;> omega) ?_
        refine Tells.pos (by simp <;> omega) ?_
        rw [show (((n + 1 : Nat) : Int) - 1) = (n : Int) + 1 - 1 by simp, hrd]
        refine Tells.neg (by omega) ?_
        exact htx
theorem inBase_ev {b : Int} (hb : 2 ≤ b) (hb' : b ≤ 90) : ∀ (d : Nat) (N : Int), 0 ≤ N → N.toNat < d → N ≤ 1000000000 → ∃ x, IB b N x ∧ Tells (fun k => impl_inBase.f k N b) x := by
  intro d
  induction d with
  | zero => intro N h0 h1; omega
  | succ d ih =>
    intro N h0 h1 h2
    obtain ⟨ds, hds, hlen, hd⟩ := digits_ev hb hb' h0 h2
    have hlt : ∀ i : Nat, i < ds.length → (i : Int) < N := by intro i hi; omega
    have hp : Part b N (dval b ds) [] := by rw [hds.val]; exact Part.start hb
    obtain ⟨x, hx, ht⟩ := inBase_l hb hb' h2 (fun e he0 he1 => ih e he0 (by omega) (by omega)) ds [] [] hds.lo hlt hp (by simp; omega)
    refine ⟨x, hx, ?_⟩
    refine Tells.step (fun k => by rw [impl_inBase.f]) ?_
    refine Tells.bind hd ?_
    rw [wrap_id (by omega) (by omega)]
    rw [List.append_nil] at ht
    exact ht
/-- both tell one ordinal -/
theorem both_inBase {b N : Int} (hb : 2 ≤ b) (hb' : b ≤ 90) (h0 : 0 ≤ N) (hN : N ≤ 1000000000) : ∃ x, IB b N x ∧ Tells (fun k => impl_inBase.f k N b) x ∧ Tells (fun k => spec_l4Ord.f k N b) (row x) := by
  obtain ⟨x, hx, h1⟩ := inBase_ev hb hb' (N.toNat + 1) N h0 (by omega) hN
  obtain ⟨y, hy, h2⟩ := l4Ord_ev hb hb' (N.toNat + 1) N h0 (by omega) hN
  have := IB.uniq hb hx hy
  subst this
  exact ⟨x, hx, h1, h2⟩
end Go.Proofs.Ytpgkpahhohfmhaa.P

namespace Go.Proofs.Ytpgkpahhohfmhaa.P
open OM Go.RowKit Go.Proofs.YtpgkpahhohfmhaaW.PrintWords Go.Proofs.YtpgkpahhohfmhaaW.PrintLast Go.Proofs.YtpgkpahhohfmhaaW.PrintMore
set_option linter.unusedVariables false
/-- the row that is told, or none -/
def fit (x : O) : List Int := if size x ≤ 60 then row x else []
theorem fit_length (x : O) : ((fit x).length : Int) ≤ 60 := by
  unfold fit
  split
  · rw [row_length]; assumption
  · simp
theorem toldv_fit {x : O} (h : most x ≤ 9999) : (toldv x).1 = fit x := by
  unfold toldv fit
  by_cases g : size x ≤ 60
  · rw [if_pos ⟨g, h⟩, if_pos g]
  · rw [if_neg (by omega), if_neg g]
def InB (b n : Int) : Prop := 0 ≤ n ∧ n ≤ 1000000000 ∧ 2 ≤ b ∧ b ≤ 90
theorem specInBase_no {a b : Int} (h : ¬ InB b a) : Tells (fun k => spec_OrdInBase.f k a b) [] := by
  unfold InB at h
  refine Tells.bind (Tells.const (l1In_eq a 0 1000000000)) ?_
  by_cases h1 : 0 ≤ a ∧ a ≤ 1000000000
  · refine Tells.pos (decide_eq_true h1) ?_
    refine Tells.bind (Tells.const (l1In_eq b 2 90)) ?_
    exact Tells.neg (by simp; omega) (Tells.now _)
  · exact Tells.neg (by simp; omega) (Tells.now _)
theorem specInBase_ev {a b : Int} {x : O} (h : InB b a) (hx : Tells (fun k => spec_l4Ord.f k a b) (row x)) : Tells (fun k => spec_OrdInBase.f k a b) (fit x) := by
  obtain ⟨h1, h2, h3, h4⟩ := h
  refine Tells.bind (Tells.const (l1In_eq a 0 1000000000)) ?_
  refine Tells.pos (by simp; omega) ?_
  refine Tells.bind (Tells.const (l1In_eq b 2 90)) ?_
  refine Tells.pos (by simp; omega) ?_
  refine Tells.bind hx ?_
  have hl := row_length x
  unfold fit
  by_cases g : size x ≤ 60
  · rw [if_pos g]
    refine Tells.neg (by omega) ?_
    exact Tells.bind hx (Tells.now _)
  · rw [if_neg g]
    exact Tells.pos (by omega) (Tells.now _)
theorem implInBase_no {a b : Int} (h : ¬ InB b a) : Tells (fun k => impl_OrdInBase.f k a b) [] := by
  unfold InB at h
  have bad : Tells (fun k => impl_OrdInBase.j0 k a b true) [] := by
    refine Tells.step (fun k => by rw [impl_OrdInBase.j0]) ?_
    exact Tells.pos rfl (Tells.now _)
  by_cases h1 : a < 0
  · exact Tells.pos h1 bad
  · refine Tells.neg h1 ?_
    by_cases h2 : a > 1000000000
    · exact Tells.pos h2 bad
    · refine Tells.neg h2 ?_
      by_cases h3 : b < 2
      · exact Tells.pos h3 bad
      · refine Tells.neg h3 ?_
        rw [decide_eq_true (show b > 90 by omega)]; exact bad
theorem implInBase_ev {a b : Int} {x : O} (h : InB b a) (hz : size x ≤ 10000000000) (hm : most x ≤ 9999) (hx : Tells (fun k => impl_inBase.f k a b) x) : Tells (fun k => impl_OrdInBase.f k a b) (fit x) := by
  obtain ⟨h1, h2, h3, h4⟩ := h
  refine Tells.neg (by omega) ?_
  refine Tells.neg (by omega) ?_
  refine Tells.neg (by omega) ?_
  rw [decide_eq_false (show ¬ b > 90 by omega)]
  refine Tells.step (fun k => by rw [impl_OrdInBase.j0]) ?_
  refine Tells.neg (by simp) ?_
  refine Tells.bind hx ?_
  refine Tells.bind (told_ev hz) ?_
  exact Tells.to (Tells.now _) (toldv_fit hm)
theorem both_OrdInBase' {a b : Int} (h : InB b a) : ∃ x, IB b a x ∧ Tells (fun k => spec_OrdInBase.f k a b) (fit x) ∧ Tells (fun k => impl_OrdInBase.f k a b) (fit x) := by
  obtain ⟨h1, h2, h3, h4⟩ := h
  obtain ⟨x, hx, g1, g2⟩ := both_inBase h3 h4 h1 h2
  have := hx.size
  have := hx.most
  exact ⟨x, hx, specInBase_ev ⟨h1, h2, h3, h4⟩ g2, implInBase_ev ⟨h1, h2, h3, h4⟩ (by omega) (by omega) g1⟩
theorem both_OrdInBase (a b : Int) : ∃ r : List Int, (r.length : Int) ≤ 60 ∧ Tells (fun k => spec_OrdInBase.f k a b) r ∧ Tells (fun k => impl_OrdInBase.f k a b) r := by
  by_cases h : InB b a
  · obtain ⟨h1, h2, h3, h4⟩ := h
    obtain ⟨x, hx, g1, g2⟩ := both_inBase h3 h4 h1 h2
    have := hx.size
    have := hx.most
    exact ⟨fit x, fit_length x, specInBase_ev ⟨h1, h2, h3, h4⟩ g2, implInBase_ev ⟨h1, h2, h3, h4⟩ (by omega) (by omega) g1⟩
  · exact ⟨[], by simp, specInBase_no h, implInBase_no h⟩
end Go.Proofs.Ytpgkpahhohfmhaa.P

namespace Go.Proofs.Ytpgkpahhohfmhaa.P
open OM Go.RowKit Go.Proofs.YtpgkpahhohfmhaaW.PrintWords Go.Proofs.YtpgkpahhohfmhaaW.PrintLast Go.Proofs.YtpgkpahhohfmhaaW.PrintMore
set_option linter.unusedVariables false

def endv (tot : Int) : Option (O × List Int) → Int
  | none => -1
  | some (_, l') => tot - l'.length
theorem endv_none (t : Int) : endv t none = -1 := rfl
theorem endv_some (t : Int) (x : O) (l : List Int) : endv t (some (x, l)) = t - l.length := rfl
theorem rd_p (p l : List Int) (m : Int) : rd (p ++ m :: l) (p.length : Int) = m := rd_mid p l m rfl
theorem end_l {n : Nat} (ih : ∀ p l : List Int, l.length < n → (((p ++ l).length : Nat) : Int) ≤ 100000000 → Tells (fun k => spec_l1End.f k (p ++ l) (p.length : Int)) (endv ((p ++ l).length : Int) (take n l))) :
    ∀ (c : Nat) (p l last : List Int) (lo : Option O) (m i : Int), l.length ≤ n → (((p ++ l).length : Nat) : Int) ≤ 100000000 → m = i + c → 0 ≤ i → m ≤ 60 →
      (i = 0 → lo = none) → (0 < i → ∃ f, lo = some f ∧ last = row f ∧ size f ≤ 100000000) →
      Tells (fun k => spec_l1End.l0 k (p ++ l) (p.length : Int) m last i) (endv ((p ++ l).length : Int) (terms (take n) c lo l)) := by
  intro c
  induction c with
  | zero =>
    intro p l last lo m i h1 h2 h3 h4 h5 h6 h7
    refine Tells.step (fun k => by rw [spec_l1End.l0]) ?_
    refine Tells.neg (by omega) ?_
    refine Tells.to (Tells.now _) ?_
    unfold terms; rw [endv_some]; simp <;> omega
  | succ c ihc =>
    intro p l last lo m i h1 h2 h3 h4 h5 h6 h7
    have h2' := h2
    simp only [List.length_append] at h2'
    refine Tells.step (fun k => by rw [spec_l1End.l0]) ?_
    refine Tells.pos (by omega) ?_
    have bad : Tells (fun k => spec_l1End.j2 k (p ++ l) (p.length : Int) m last i true) (-1) := by
      refine Tells.step (fun k => by rw [spec_l1End.j2]) ?_
      exact Tells.pos rfl (Tells.now _)
    cases l with
    | nil =>
      refine Tells.pos (by simp) ?_
      refine Tells.to bad ?_
      unfold terms; rfl
    | cons t l =>
      simp only [List.length_cons] at h1 h2'
      refine Tells.neg (by simp; omega) ?_
      refine Tells.pos (by omega) ?_
      refine Tells.pos (by simp; omega) ?_
      rw [rd_p]
      refine Tells.bind (Tells.const (l1In_eq t 1 9999)) ?_
      rw [terms]
      by_cases ht : 1 ≤ t ∧ t ≤ 9999
      · rw [if_pos ht, decide_eq_true ht]
        refine Tells.step (fun k => by rw [spec_l1End.j2]) ?_
        refine Tells.neg (by simp) ?_
        rw [wrap_id (i := (p.length : Int) + 1) (by omega) (by omega)]
        have hf := ih (p ++ [t]) l (by omega) (by simp; omega)
        rw [← snoc p l t, show ((p ++ [t]).length : Int) = (p.length : Int) + 1 by simp] at hf
        refine Tells.bind hf ?_
        cases hk : take n l with
        | none =>
          rw [endv_none]
          exact Tells.pos (by omega) (Tells.now _)
        | some q =>
          obtain ⟨e, l1⟩ := q
          rw [endv_some]
          simp only
          obtain ⟨a1, a2, a3⟩ := take_good _ _ _ _ hk
          have hlen := take_len hk
          have hre := row_length e
          have hl : (l.length : Int) = (row e).length + l1.length := by rw [a1]; simp
          have hend : (((p ++ t :: l).length : Nat) : Int) - l1.length = (p.length : Int) + 1 + (row e).length := by simp; omega
          rw [hend]
          refine Tells.neg (by omega) ?_
          have hcut : (((p ++ t :: l).take ((p.length : Int) + 1 + ((row e).length : Int)).toNat).drop ((p.length : Int) + 1).toNat) = row e := by
            rw [show ((p.length : Int) + 1 + ((row e).length : Int)).toNat = (p ++ [t]).length + (row e).length by simp; omega, show ((p.length : Int) + 1).toNat = (p ++ [t]).length by simp <;> omega, a1, show p ++ t :: (row e ++ l1) = (p ++ [t]) ++ (row e ++ l1) by simp, List.take_length_add_append, List.take_left, List.drop_left]
          have go : Tells (fun k => spec_l1End.l0 k (p ++ t :: l) ((p.length : Int) + 1 + (row e).length) m (row e) (wrap64 (i + 1)))
              (endv (((p ++ t :: l).length : Nat) : Int) (match terms (take n) c (some e) l1 with | none => none | some (r, l'') => some ((⟨t, e⟩ : Tm) :: r, l''))) := by
            rw [wrap_id (by omega) (by omega)]
            have := ihc (p ++ (t :: row e)) l1 (row e) (some e) m (i + 1) (by omega) (by rw [a1] at h2; simp at h2 ⊢; omega) (by omega) (by omega) h5 (fun h => by omega) (fun _ => ⟨e, rfl, rfl, by omega⟩)
            rw [show (p ++ (t :: row e)) ++ l1 = p ++ t :: l by rw [a1]; simp, show ((p ++ (t :: row e)).length : Int) = (p.length : Int) + 1 + (row e).length by simp; omega] at this
            refine Tells.to this ?_
            cases terms (take n) c (some e) l1 with
            | none => rfl
            | some q => obtain ⟨r, l2⟩ := q; rfl
          by_cases hi : i > 0
          · obtain ⟨f, hlo, hlast, hsf⟩ := h7 hi
            subst hlo; subst hlast
            refine Tells.pos hi ?_
            refine Tells.pos (by omega) ?_
            refine Tells.pos (by omega) ?_
            refine Tells.pos (by simp; omega) ?_
            rw [hcut]
            refine Tells.bind (specCompare_ev (by omega) (by omega)) ?_
            by_cases hc : cmp e f ≥ 0
            · refine Tells.pos hc ?_
              have : late (some f) e = true := by unfold late; simp only [decide_eq_true_eq]; exact hc
              rw [if_pos this]
              exact Tells.now _
            · refine Tells.neg hc ?_
              have : ¬ late (some f) e = true := by unfold late; simp only [decide_eq_true_eq]; exact hc
              rw [if_neg this]
              exact go
          · have hlo := h6 (by omega)
            subst hlo
            refine Tells.neg hi ?_
            refine Tells.pos (by omega) ?_
            refine Tells.pos (by omega) ?_
            refine Tells.pos (by simp; omega) ?_
            rw [hcut]
            have : ¬ late none e = true := by unfold late; simp
            rw [if_neg this]
            exact go
      · rw [if_neg ht, decide_eq_false ht]
        exact bad
theorem end_ev : ∀ (n : Nat) (p l : List Int), l.length < n → (((p ++ l).length : Nat) : Int) ≤ 100000000 → Tells (fun k => spec_l1End.f k (p ++ l) (p.length : Int)) (endv ((p ++ l).length : Int) (take n l)) := by
  intro n
  induction n with
  | zero => intro p l h; omega
  | succ n ih =>
    intro p l h h2
    have h2' := h2
    simp only [List.length_append] at h2'
    have bad : Tells (fun k => spec_l1End.j0 k (p ++ l) (p.length : Int) true) (-1) := by
      refine Tells.step (fun k => by rw [spec_l1End.j0]) ?_
      exact Tells.pos rfl (Tells.now _)
    refine Tells.step (fun k => by rw [spec_l1End.f]) ?_
    cases l with
    | nil =>
      refine Tells.pos (by simp) ?_
      refine Tells.to bad ?_
      unfold take; rfl
    | cons m l =>
      simp only [List.length_cons] at h h2'
      refine Tells.neg (by simp; omega) ?_
      refine Tells.pos (by omega) ?_
      refine Tells.pos (by simp; omega) ?_
      rw [rd_p]
      refine Tells.bind (Tells.const (l1In_eq m 0 60)) ?_
      rw [take]
      by_cases hm : 0 ≤ m ∧ m ≤ 60
      · rw [if_pos hm, decide_eq_true hm]
        refine Tells.step (fun k => by rw [spec_l1End.j0]) ?_
        refine Tells.neg (by simp) ?_
        refine Tells.pos (by omega) ?_
        refine Tells.pos (by simp; omega) ?_
        rw [rd_p, wrap_id (by omega) (by omega)]
        have := end_l ih m.toNat (p ++ [m]) l [] none m 0 (by omega) (by simp; omega) (by omega) (by omega) (by omega) (fun _ => rfl) (fun h => by omega)
        rw [← snoc p l m, show ((p ++ [m]).length : Int) = (p.length : Int) + 1 by simp] at this
        exact this
      · rw [if_neg hm, decide_eq_false hm]
        exact bad
theorem ordValid_ev {l : List Int} (h : (l.length : Int) ≤ 100000000) : Tells (fun k => spec_OrdValid.f k l) (ordOf l).isSome := by
  refine Tells.bind (Tells.const (l1In_eq _ 1 60)) ?_
  unfold ordOf
  by_cases hl : 1 ≤ l.length ∧ l.length ≤ 60
  · rw [if_pos hl]
    refine Tells.pos (decide_eq_true (by omega)) ?_
    refine Tells.bind (end_ev 61 [] l (by omega) (by simpa using h)) ?_
    refine Tells.to (Tells.now _) ?_
    simp only [List.nil_append]
    cases take 61 l with
    | none => rw [endv_none]; simp <;> omega
    | some q =>
      obtain ⟨x, l'⟩ := q
      rw [endv_some]
      cases l' with
      | nil => simp
      | cons a l' => simp; omega
  · rw [if_neg hl]
    refine Tells.neg (by simp; omega) ?_
    exact Tells.now _
theorem row_inj' : ∀ (x y : O) (a b : List Int), row x ++ a = row y ++ b → x = y ∧ a = b := by
  have fl : ∀ (x y : O) (a b : List Int), x.length = y.length → flat x ++ a = flat y ++ b → x = y ∧ a = b := by
    intro x
    induction x using ind with
    | h0 =>
      intro y a b h1 h2
      cases y with
      | nil => exact ⟨rfl, by simpa [flat_nil] using h2⟩
      | cons _ _ => simp at h1
    | h1 c e r ihe ihr =>
      intro y a b h1 h2
      cases y with
      | nil => simp at h1
      | cons t s =>
        obtain ⟨d, f⟩ := t
        rw [flat_cons, flat_cons] at h2
        unfold row at h2
        simp only [List.cons_append, List.append_assoc, List.cons.injEq] at h2
        obtain ⟨h3, h4, h5⟩ := h2
        obtain ⟨h6, h7⟩ := ihe f _ _ (by omega) h5
        obtain ⟨h8, h9⟩ := ihr s _ _ (by simpa using h1) h7
        subst h3; subst h6; subst h8
        exact ⟨rfl, h9⟩
  intro x y a b h
  unfold row at h
  simp only [List.cons_append, List.cons.injEq] at h
  exact fl x y a b (by omega) h.2
theorem ordOf_row' (x : O) : ordOf (row x) = some x ∨ (ordOf (row x) = none ∧ ¬ Vd x) := by
  cases h : ordOf (row x) with
  | none => exact .inr ⟨rfl, fun hv => by rw [ordOf_row hv] at h; cases h⟩
  | some y =>
    obtain ⟨h1, h2⟩ := ordOf_some h
    have := row_inj' x y [] [] (by rw [h1])
    rw [this.1]; exact .inl rfl
end Go.Proofs.Ytpgkpahhohfmhaa.P

namespace Go.Proofs.Ytpgkpahhohfmhaa.P
open OM Go.RowKit Go.Proofs.YtpgkpahhohfmhaaW.PrintWords Go.Proofs.YtpgkpahhohfmhaaW.PrintLast Go.Proofs.YtpgkpahhohfmhaaW.PrintMore
set_option linter.unusedVariables false

theorem ordv_some {l : List Int} {x : O} (h : ordOf l = some x) : ordv l = (x, true) := by unfold ordv; rw [h]
theorem ordv_none {l : List Int} (h : ordOf l = none) : (ordv l).2 = false := by unfold ordv; rw [h]
theorem valid_ev {l : List Int} {x : O} (h : ordOf l = some x) : Tells (fun k => spec_OrdValid.f k l) true := by
  have h1 := ordOf_some h
  have h2 := row_length x
  have := @ordValid_ev l (by rw [h1.1, h2]; have := h1.2.2.2; omega)
  rw [h] at this; exact this
theorem invalid_ev {l : List Int} (hl : (l.length : Int) ≤ 100000000) (h : ordOf l = none) : Tells (fun k => spec_OrdValid.f k l) false := by
  have := @ordValid_ev l hl
  rw [h] at this; exact this
theorem ord_ev {l : List Int} {x : O} (h : ordOf l = some x) : Tells (fun k => impl_ordOf.f k l) (x, true) := by
  have := @ordOf_ev l
  rw [ordv_some h] at this; exact this
theorem es_zero (c : Int) (e r : O) : rd_L3 (es (⟨c, e⟩ :: r)) 0 = row e := rfl
theorem cs_zero (c : Int) (e r : O) : rd (cs (⟨c, e⟩ :: r)) 0 = c := rfl
theorem rdT_zero (t : Tm) (r : O) : rd_T69 (t :: r) 0 = t := rfl
theorem row_one {x : O} : ((row x).length : Int) = 1 ↔ x = [] := by
  rw [row_length]
  cases x with
  | nil => rw [size_nil]; simp
  | cons t r =>
    obtain ⟨c, e⟩ := t
    rw [size_cons]
    have := size_pos e
    have := size_pos r
    constructor
    · intro h; omega
    · intro h; cases h
/-- the reference's check of an ordinal's row -/
theorem validRow_ev {x : O} (hx : NF x) (hz : size x ≤ 100000000) : Tells (fun k => spec_OrdValid.f k (row x)) (decide (size x ≤ 60 ∧ most x ≤ 9999)) := by
  have hl := row_length x
  have := @ordValid_ev (row x) (by omega)
  refine Tells.to this ?_
  by_cases h : size x ≤ 60 ∧ most x ≤ 9999
  · rw [ordOf_row ⟨hx, h.2, h.1⟩, decide_eq_true h]; rfl
  · rcases ordOf_row' x with g | ⟨g, _⟩
    · have := (ordOf_some g).2
      exact absurd ⟨this.2.2, this.2.1⟩ h
    · rw [g, decide_eq_false h]; rfl
theorem toldv_length (x : O) : ((toldv x).1.length : Int) ≤ 60 := by
  unfold toldv
  split
  · show ((row x).length : Int) ≤ 60
    rw [row_length]; omega
  · simp
theorem toldv_true {x : O} (h : size x ≤ 60 ∧ most x ≤ 9999) : toldv x = (row x, true) := by unfold toldv; rw [if_pos h]
theorem toldv_false {x : O} (h : ¬ (size x ≤ 60 ∧ most x ≤ 9999)) : toldv x = ([], false) := by unfold toldv; rw [if_neg h]
end Go.Proofs.Ytpgkpahhohfmhaa.P

namespace Go.Proofs.Ytpgkpahhohfmhaa.P
open OM Go.RowKit Go.Proofs.YtpgkpahhohfmhaaW.PrintWords Go.Proofs.YtpgkpahhohfmhaaW.PrintLast Go.Proofs.YtpgkpahhohfmhaaW.PrintMore
set_option linter.unusedVariables false

/-- the value, or -1 if it is too great -/
def slowv (n : Int) (x : O) : Int := if val n x > 1000000000 then -1 else val n x
theorem pow_step' (b : Int) (j : Nat) : b ^ (j + 1) = b ^ j * b := Int.pow_succ b j
theorem pow_gt' {b : Int} (hb : 2 ≤ b) (j : Nat) : (j : Int) < b ^ j := by
  induction j with
  | zero => simp
  | succ j ih =>
    rw [pow_step']
    have h1 := pow_pos (n := b) (by omega) j
    have : b ^ j * 2 ≤ b ^ j * b := Int.mul_le_mul_of_nonneg_left hb (by omega)
    simp only [Int.natCast_succ]
    omega
theorem one_pow' (j : Nat) : (1 : Int) ^ j = 1 := by
  induction j with
  | zero => rfl
  | succ j ih => rw [pow_step', ih]; rfl
/-- the value for 1 is small -/
theorem val_one : ∀ {x : O}, NF x → most x ≤ 9999 → val 1 x ≤ 9999 * size x := by
  intro x
  induction x using ind with
  | h0 => intro _ _; rw [val_nil, size_nil]; omega
  | h1 c e r ihe ihr =>
    intro h1 h2
    obtain ⟨g1, g2, g3, g4⟩ := NF_cons.1 h1
    rw [most_cons] at h2
    have := ihr g3 (by omega)
    have := size_pos e
    rw [val_cons, size_cons, one_pow']
    omega
/-- n to the power of e, or -1 -/
def raisev (n e : Int) : Int := if n ^ e.toNat > 1000000000 then -1 else n ^ e.toNat
theorem specRaise_l {n : Int} (hn : 2 ≤ n) (hn' : n ≤ 99) (m : Nat) (hm : (m : Int) ≤ 1000000000) : ∀ (d i : Nat), i + d = m → n ^ i ≤ 1000000000 → Tells (fun k => spec_l3Raise.l0 k n (m : Int) (n ^ i) (i : Int)) (if n ^ m > 1000000000 then -1 else n ^ m) := by
  intro d
  induction d with
  | zero =>
    intro i h1 h2
    have : i = m := by omega
    subst this
    refine Tells.step (fun k => by rw [spec_l3Raise.l0]) ?_
    rw [if_neg (show ¬ n ^ i > 1000000000 by omega)]
    exact Tells.neg (by omega) (Tells.now _)
  | succ d ih =>
    intro i h1 h2
    have hp := pow_pos (n := n) (by omega) i
    have hs := pow_step' n i
    have h3 : n ^ i * n ≤ 1000000000 * 99 := Int.mul_le_mul h2 hn' (by omega) (by omega)
    have h4 := pow_pos (n := n) (by omega) (i + 1)
    refine Tells.step (fun k => by rw [spec_l3Raise.l0]) ?_
    refine Tells.pos (by omega) ?_
    rw [← hs, wrap_id (i := n ^ (i + 1)) (by omega) (by omega)]
    by_cases hb : n ^ (i + 1) > 1000000000
    · have := pow_mono (n := n) (by omega) (show i + 1 ≤ m by omega)
      refine Tells.pos hb ?_
      rw [if_pos (show n ^ m > 1000000000 by omega)]; exact Tells.now _
    · refine Tells.neg hb ?_
      refine Tells.neg (by omega) ?_
      rw [wrap_id (by omega) (by omega)]
      have := ih (i + 1) (by omega) (by omega)
      rw [show ((i + 1 : Nat) : Int) = (i : Int) + 1 by simp] at this
      exact this
theorem specRaise_ev {n e : Int} (hn : 1 ≤ n) (hn' : n ≤ 99) (he : 0 ≤ e) (he' : e ≤ 1000000000) : Tells (fun k => spec_l3Raise.f k n e) (raisev n e) := by
  unfold raisev
  by_cases h : n = 1
  · subst h
    rw [one_pow', if_neg (by omega)]
    refine Tells.step (g := fun k => spec_l3Raise.l0 k 1 e 1 0) (fun k => by rw [spec_l3Raise.l0]) ?_
    by_cases h0 : 0 < e
    · refine Tells.pos h0 ?_
      refine Tells.neg (by rw [wrap_id (by omega) (by omega)]; omega) ?_
      exact Tells.pos (by omega) (Tells.now _)
    · exact Tells.neg h0 (Tells.now _)
  · have := specRaise_l (n := n) (by omega) hn' e.toNat (by omega) e.toNat 0 (by omega) (by simp)
    rw [Int.toNat_of_nonneg he, Int.pow_zero] at this
    exact this
/-- an exponent's value that is too great makes the value too great -/
theorem slow_big {n c : Int} {e r : O} (hn : 1 ≤ n) (h : NF (⟨c, e⟩ :: r)) (hb : val n e > 1000000000) (h1 : n = 1 → val n e ≤ 1000000000) : val n (⟨c, e⟩ :: r) > 1000000000 := by
  obtain ⟨g1, g2, g3, g4⟩ := NF_cons.1 h
  have hr := val_nonneg hn g3
  have h2 : 2 ≤ n := by
    rcases Int.lt_or_le n 2 with g | g
    · have := h1 (by omega); omega
    · exact g
  have h3 := pow_gt' h2 (val n e).toNat
  have h4 := mul_pow_pos hn g1 (val n e).toNat
  rw [val_cons]
  omega
theorem specValue_l {n : Int} (hn : 1 ≤ n) (hn' : n ≤ 99) : ∀ (r p : O) (acc : Int), NF r → most r ≤ 9999 → size r ≤ 60 → size (p ++ r) ≤ 60 → 0 ≤ acc → acc ≤ 1000000000 →
    Tells (fun k => spec_l3Value.l0 k n (cs (p ++ r)) (es (p ++ r)) acc (p.length : Int)) (if acc + val n r > 1000000000 then -1 else acc + val n r) := by
  intro r
  induction r using ind with
  | h0 =>
    intro p acc h1 h2 h3 h4 h5 h6
    refine Tells.step (fun k => by rw [spec_l3Value.l0]) ?_
    refine Tells.neg (by rw [cs_length]; simp) ?_
    refine Tells.to (Tells.now _) ?_
    rw [val_nil, if_neg (by omega)]; omega
  | h1 c e r ihe ihr =>
    intro p acc h1 h2 h3 h4 h5 h6
    obtain ⟨g1, g2, g3, g4⟩ := NF_cons.1 h1
    have hp := length_le_size (p ++ ⟨c, e⟩ :: r)
    simp only [List.length_append, List.length_cons] at hp
    have m2 := h2
    have z3 := h3
    rw [most_cons] at m2
    rw [size_cons] at z3
    have := size_pos e
    have := size_pos r
    have hve := val_nonneg hn g2
    have hvr := val_nonneg hn g3
    have hone : n = 1 → val n e ≤ 1000000000 := by
      intro h
      rw [h]
      have := val_one g2 (by omega)
      omega
    refine Tells.step (fun k => by rw [spec_l3Value.l0]) ?_
    refine Tells.pos (by rw [cs_length]; simp; omega) ?_
    refine Tells.pos (by omega) ?_
    refine Tells.pos (by rw [es_length]; simp; omega) ?_
    have he : rd_L3 (es (p ++ ⟨c, e⟩ :: r)) (p.length : Int) = row e := by rw [es_append, es_cons]; exact rdL_mid _ _ _ (by rw [es_length])
    have hc : rd (cs (p ++ ⟨c, e⟩ :: r)) (p.length : Int) = c := by rw [cs_append, cs_cons]; exact rd_mid _ _ _ (by rw [cs_length])
    rw [he, hc]
    have hf : Tells (fun k => spec_l3Value.f k (row e) n) (slowv n e) := by
      refine Tells.step (fun k => by rw [spec_l3Value.f]) ?_
      refine Tells.bind (terms_ev (by omega)) ?_
      have := ihe [] 0 g2 (by omega) (by omega) (by show size e ≤ _; omega) (by omega) (by omega)
      rw [Int.zero_add] at this
      exact this
    refine Tells.bind hf ?_
    unfold slowv
    by_cases hbe : val n e > 1000000000
    · have hb := slow_big hn h1 hbe hone
      rw [if_pos hbe]
      refine Tells.pos (by omega) ?_
      rw [if_pos (by omega)]; exact Tells.now _
    · rw [if_neg hbe]
      refine Tells.neg (by omega) ?_
      refine Tells.bind (specRaise_ev hn hn' hve (by omega)) ?_
      have hpp := pow_pos hn (val n e).toNat
      have hmp := mul_pow_pos hn g1 (val n e).toNat
      unfold raisev
      rw [val_cons]
      by_cases hbp : n ^ (val n e).toNat > 1000000000
      · rw [if_pos hbp]
        refine Tells.pos (by omega) ?_
        rw [if_pos (by omega)]; exact Tells.now _
      · rw [if_neg hbp]
        refine Tells.neg (by omega) ?_
        have hcp : c * n ^ (val n e).toNat ≤ 9999 * 1000000000 := Int.mul_le_mul (by omega) (by omega) (by omega) (by omega)
        generalize c * n ^ (val n e).toNat = q at hmp hcp ⊢
        rw [wrap_id (i := q) (by omega) (by omega), wrap_id (i := acc + q) (by omega) (by omega)]
        by_cases hbs : acc + q > 1000000000
        · refine Tells.pos hbs ?_
          rw [if_pos (by omega)]; exact Tells.now _
        · refine Tells.neg hbs ?_
          rw [wrap_id (by omega) (by omega), snoc p]
          have := ihr (p ++ [⟨c, e⟩]) (acc + q) g3 (by omega) (by omega) (by rw [← snoc]; exact h4) (by omega) (by omega)
          rw [show ((p ++ [(⟨c, e⟩ : Tm)]).length : Int) = (p.length : Int) + 1 by simp] at this
          rw [← Int.add_assoc]
          exact this
theorem specValue_ev {n : Int} {x : O} (hn : 1 ≤ n) (hn' : n ≤ 99) (hx : Vd x) : Tells (fun k => spec_l3Value.f k (row x) n) (slowv n x) := by
  have hz := hx.size
  refine Tells.step (fun k => by rw [spec_l3Value.f]) ?_
  refine Tells.bind (terms_ev (by omega)) ?_
  have := specValue_l hn hn' x [] 0 hx.1 hx.2.1 hz hz (by omega) (by omega)
  rw [Int.zero_add] at this
  exact this

/-! #### the program -/
/-- the inner loop: the value grows by one more factor, up to the power -/
theorem slow1_l {n c : Int} {x : O} {acc i : Int} {len : Int} (hn : 2 ≤ n) (hn' : n ≤ 99) (hc : 1 ≤ c) (m : Nat) (hm : (m : Int) ≤ 1000000000) (ha : 0 ≤ acc) (ha' : acc ≤ 1000000000) {R : Int} (hbig : acc + c * n ^ m > 1000000000 → R = -1) (hgo : acc + c * n ^ m ≤ 1000000000 → Tells (fun k => impl_slow.l0 k n (acc + c * n ^ m) x len (wrap64 (i + 1))) R) :
    ∀ (d j : Nat), j + d = m → c * n ^ j ≤ 1000000000 ∨ j = 0 ∧ c ≤ 9999 → Tells (fun k => impl_slow.l1 k n acc (c * n ^ j) x len i (m : Int) (j : Int)) R := by
  intro d
  induction d with
  | zero =>
    intro j h1 h2
    have : j = m := by omega
    subst this
    have hcp : c * n ^ j ≤ 1000000000 := by
      rcases h2 with h | ⟨h, h'⟩
      · exact h
      · subst h; simp; omega
    have hcp0 : 0 ≤ c * n ^ j := Int.mul_nonneg (by omega) (by have := pow_pos (n := n) (by omega) j; omega)
    refine Tells.step (fun k => by rw [impl_slow.l1]) ?_
    refine Tells.neg (by omega) ?_
    rw [wrap_id (i := acc + c * n ^ j) (by omega) (by omega)]
    by_cases h : acc + c * n ^ j > 1000000000
    · refine Tells.pos h ?_
      rw [hbig h]; exact Tells.now _
    · exact Tells.neg h (hgo (by omega))
  | succ d ih =>
    intro j h1 h2
    have hcp : c * n ^ j ≤ 1000000000 := by
      rcases h2 with h | ⟨h, h'⟩
      · exact h
      · subst h; simp; omega
    have hcp0 : 0 ≤ c * n ^ j := Int.mul_nonneg (by omega) (by have := pow_pos (n := n) (by omega) j; omega)
    have hs : c * n ^ j * n = c * n ^ (j + 1) := by rw [pow_step', Int.mul_assoc]
    have h3 : c * n ^ j * n ≤ 1000000000 * 99 := Int.mul_le_mul hcp hn' (by omega) (by omega)
    have h4 : 0 ≤ c * n ^ j * n := Int.mul_nonneg hcp0 (by omega)
    refine Tells.step (fun k => by rw [impl_slow.l1]) ?_
    refine Tells.pos (by omega) ?_
    rw [wrap_id (i := c * n ^ j * n) (by omega) (by omega), wrap_id (i := (j : Int) + 1) (by omega) (by omega), hs]
    by_cases h : c * n ^ (j + 1) > 1000000000
    · refine Tells.pos h ?_
      have h5 := pow_mono (n := n) (by omega) (show j + 1 ≤ m by omega)
      have h6 : c * n ^ (j + 1) ≤ c * n ^ m := Int.mul_le_mul_of_nonneg_left h5 (by omega)
      rw [hbig (by omega)]; exact Tells.now _
    · refine Tells.neg h ?_
      have := ih (j + 1) (by omega) (.inl (by omega))
      rw [show ((j + 1 : Nat) : Int) = (j : Int) + 1 by simp] at this
      exact this
theorem implSlow_l {n : Int} (hn : 1 ≤ n) (hn' : n ≤ 99) : ∀ (r p : O) (acc : Int), NF r → most r ≤ 9999 → size r ≤ 60 → size (p ++ r) ≤ 60 → 0 ≤ acc → acc ≤ 1000000000 →
    Tells (fun k => impl_slow.l0 k n acc (p ++ r) ((p ++ r).length : Int) (p.length : Int)) (if acc + val n r > 1000000000 then -1 else acc + val n r) := by
  intro r
  induction r using ind with
  | h0 =>
    intro p acc h1 h2 h3 h4 h5 h6
    refine Tells.step (fun k => by rw [impl_slow.l0]) ?_
    refine Tells.neg (by simp) ?_
    refine Tells.to (Tells.now _) ?_
    rw [val_nil, if_neg (by omega)]; omega
  | h1 c e r ihe ihr =>
    intro p acc h1 h2 h3 h4 h5 h6
    obtain ⟨g1, g2, g3, g4⟩ := NF_cons.1 h1
    have hp := length_le_size (p ++ ⟨c, e⟩ :: r)
    simp only [List.length_append, List.length_cons] at hp
    have m2 := h2
    have z3 := h3
    rw [most_cons] at m2
    rw [size_cons] at z3
    have := size_pos e
    have := size_pos r
    have hve := val_nonneg hn g2
    have hvr := val_nonneg hn g3
    have hone : n = 1 → val n e ≤ 1000000000 := by
      intro h
      rw [h]
      have := val_one g2 (by omega)
      omega
    refine Tells.step (fun k => by rw [impl_slow.l0]) ?_
    refine Tells.pos (by simp; omega) ?_
    refine Tells.pos (by omega) ?_
    refine Tells.pos (by simp; omega) ?_
    rw [rdT_mid p r ⟨c, e⟩ rfl]
    have hf : Tells (fun k => impl_slow.f k e n) (slowv n e) := by
      refine Tells.step (fun k => by rw [impl_slow.f]) ?_
      have := ihe [] 0 g2 (by omega) (by omega) (by show size e ≤ _; omega) (by omega) (by omega)
      rw [Int.zero_add] at this
      exact this
    refine Tells.bind hf ?_
    unfold slowv
    by_cases hbe : val n e > 1000000000
    · have hb := slow_big hn h1 hbe hone
      rw [if_pos hbe]
      refine Tells.pos (by omega) ?_
      rw [if_pos (by omega)]; exact Tells.now _
    · rw [if_neg hbe]
      refine Tells.neg (by omega) ?_
      have hpp := pow_pos hn (val n e).toNat
      have hmp := mul_pow_pos hn g1 (val n e).toNat
      have hsum : acc + val n (⟨c, e⟩ :: r) = acc + c * n ^ (val n e).toNat + val n r := by rw [val_cons]; omega
      rw [hsum]
      have next : ∀ q, 0 ≤ q → acc + q ≤ 1000000000 → Tells (fun k => impl_slow.l0 k n (acc + q) (p ++ ⟨c, e⟩ :: r) ((p ++ ⟨c, e⟩ :: r).length : Int) (wrap64 ((p.length : Int) + 1))) (if acc + q + val n r > 1000000000 then -1 else acc + q + val n r) := by
        intro q hq1 hq2
        rw [wrap_id (by omega) (by omega), snoc p]
        have := ihr (p ++ [⟨c, e⟩]) (acc + q) g3 (by omega) (by omega) (by rw [← snoc]; exact h4) (by omega) hq2
        rw [show ((p ++ [(⟨c, e⟩ : Tm)]).length : Int) = (p.length : Int) + 1 by simp] at this
        exact this
      by_cases hn1 : n > 1
      · refine Tells.pos hn1 ?_
        have := slow1_l (x := p ++ ⟨c, e⟩ :: r) (len := ((p ++ ⟨c, e⟩ :: r).length : Int)) (i := (p.length : Int)) (acc := acc) (R := if acc + c * n ^ (val n e).toNat + val n r > 1000000000 then -1 else acc + c * n ^ (val n e).toNat + val n r) (show 2 ≤ n by omega) hn' g1 (val n e).toNat (by omega) h5 h6 (fun h => by rw [if_pos (by omega)]) (fun h => next _ (by omega) h) (val n e).toNat 0 (by omega) (.inr ⟨rfl, by omega⟩)
        rw [Int.toNat_of_nonneg hve] at this
        simpa using this
      · refine Tells.neg hn1 ?_
        have h1' : n = 1 := by omega
        subst h1'
        have hq : c * 1 ^ (val 1 e).toNat = c := by rw [one_pow', Int.mul_one]
        rw [hq]
        show Tells (fun k => if wrap64 (acc + c) > 1000000000 then some (-1) else impl_slow.l0 k 1 (wrap64 (acc + c)) (p ++ ⟨c, e⟩ :: r) ((p ++ ⟨c, e⟩ :: r).length : Int) (wrap64 ((p.length : Int) + 1))) _
        rw [wrap_id (i := acc + c) (by omega) (by omega)]
        by_cases hbs : acc + c > 1000000000
        · refine Tells.pos hbs ?_
          rw [if_pos (by omega)]; exact Tells.now _
        · exact Tells.neg hbs (next c (by omega) (by omega))
theorem implSlow_ev {n : Int} {x : O} (hn : 1 ≤ n) (hn' : n ≤ 99) (hx : Vd x) : Tells (fun k => impl_slow.f k x n) (slowv n x) := by
  have hz := hx.size
  refine Tells.step (fun k => by rw [impl_slow.f]) ?_
  have := implSlow_l hn hn' x [] 0 hx.1 hx.2.1 hz hz (by omega) (by omega)
  rw [Int.zero_add] at this
  exact this
/-! #### both -/
def slowValv (a : List Int) (n : Int) : Int := match ordOf a with
  | some x => if 1 ≤ n ∧ n ≤ 99 then slowv n x else -1
  | none => -1
theorem slowValv_some {l : List Int} {x : O} (h : ordOf l = some x) (n : Int) : slowValv l n = if 1 ≤ n ∧ n ≤ 99 then slowv n x else -1 := by unfold slowValv; rw [h]
theorem slowValv_none {l : List Int} (h : ordOf l = none) (n : Int) : slowValv l n = -1 := by unfold slowValv; rw [h]
theorem specSlowValue_ev {a : List Int} {n : Int} (ha : (a.length : Int) ≤ 100000000) : Tells (fun k => spec_SlowValue.f k a n) (slowValv a n) := by
  cases h : ordOf a with
  | none =>
    rw [slowValv_none h]
    refine Tells.bind (invalid_ev ha h) ?_
    exact Tells.neg (by simp) (Tells.now _)
  | some x =>
    rw [slowValv_some h]
    refine Tells.bind (valid_ev h) ?_
    refine Tells.pos rfl ?_
    refine Tells.bind (Tells.const (l1In_eq n 1 99)) ?_
    obtain ⟨h1, h2⟩ := ordOf_some h
    by_cases g : 1 ≤ n ∧ n ≤ 99
    · rw [if_pos g]
      refine Tells.pos (decide_eq_true g) ?_
      rw [h1]
      exact Tells.bind (specValue_ev g.1 g.2 h2) (Tells.now _)
    · rw [if_neg g]
      exact Tells.neg (by rw [decide_eq_false g]; simp) (Tells.now _)
theorem implSlowValue_ev {a : List Int} {n : Int} : Tells (fun k => impl_SlowValue.f k a n) (slowValv a n) := by
  refine Tells.bind ordOf_ev ?_
  cases h : ordOf a with
  | none => rw [slowValv_none h]; exact Tells.neg (by rw [ordv_none h]; simp) (Tells.now _)
  | some x =>
    rw [ordv_some h, slowValv_some h]
    refine Tells.pos rfl ?_
    obtain ⟨h1, h2⟩ := ordOf_some h
    by_cases g1 : n < 1
    · rw [if_neg (by omega)]; exact Tells.pos g1 (Tells.now _)
    · refine Tells.neg g1 ?_
      by_cases g2 : n > 99
      · rw [if_neg (by omega)]; exact Tells.pos g2 (Tells.now _)
      · refine Tells.neg g2 ?_
        rw [if_pos (by omega)]
        exact Tells.bind (implSlow_ev (by omega) (by omega) h2) (Tells.now _)
end Go.Proofs.Ytpgkpahhohfmhaa.P

namespace Go.Proofs.Ytpgkpahhohfmhaa.P
open OM Go.RowKit Go.Proofs.YtpgkpahhohfmhaaW.PrintWords Go.Proofs.YtpgkpahhohfmhaaW.PrintLast Go.Proofs.YtpgkpahhohfmhaaW.PrintMore
set_option linter.unusedVariables false

theorem IB_vd {b n : Int} {x : O} (h : IB b n x) (hb : b ≤ 90) (hz : size x ≤ 60) : Vd x := ⟨h.nf, by have := h.most; omega, hz⟩
/-- the value of a fitting ordinal for another base -/
def changev (c : Int) (x : O) : Int := if size x ≤ 60 ∧ 2 ≤ c ∧ c ≤ 90 then slowv c x else -1
theorem slowv_range {n : Int} {x : O} (hn : 1 ≤ n) (h : NF x) : -1 ≤ slowv n x ∧ slowv n x ≤ 1000000000 := by
  have := val_nonneg hn h
  unfold slowv
  split <;> omega
theorem both_ChangeBase' {a b : Int} (h : InB b a) : ∃ x, IB b a x ∧ Tells (fun k => impl_OrdInBase.f k a b) (fit x) ∧ ∀ c : Int, Tells (fun k => spec_ChangeBase.f k a b c) (changev c x) ∧ Tells (fun k => impl_ChangeBase.f k a b c) (changev c x) := by
  obtain ⟨x, hx, g1, g2⟩ := both_OrdInBase' h
  obtain ⟨h1, h2, h3, h4⟩ := h
  have hl := row_length x
  have hp := size_pos x
  refine ⟨x, hx, g2, fun c => ⟨?_, ?_⟩⟩
  · refine Tells.bind g1 ?_
    unfold fit changev
    by_cases hz : size x ≤ 60
    · rw [if_pos hz]
      refine Tells.neg (by omega) ?_
      refine Tells.bind (Tells.const (l1In_eq c 2 90)) ?_
      by_cases hc : 2 ≤ c ∧ c ≤ 90
      · rw [if_pos ⟨hz, hc⟩]
        refine Tells.pos (decide_eq_true hc) ?_
        exact Tells.bind (specValue_ev (by omega) (by omega) (IB_vd hx h4 hz)) (Tells.now _)
      · rw [if_neg (fun h => hc h.2)]
        exact Tells.neg (by rw [decide_eq_false hc]; simp) (Tells.now _)
    · rw [if_neg hz, if_neg (fun h => hz h.1)]
      exact Tells.pos rfl (Tells.now _)
  · refine Tells.bind g2 ?_
    unfold fit changev
    by_cases hz : size x ≤ 60
    · rw [if_pos hz]
      refine Tells.neg (by omega) ?_
      by_cases hc1 : c < 2
      · rw [if_neg (by omega)]; exact Tells.pos hc1 (Tells.now _)
      · refine Tells.neg hc1 ?_
        by_cases hc2 : c > 90
        · rw [if_neg (by omega)]; exact Tells.pos hc2 (Tells.now _)
        · refine Tells.neg hc2 ?_
          rw [if_pos (by omega)]
          have := @implSlowValue_ev (row x) c
          rw [slowValv_some (ordOf_row (IB_vd hx h4 hz)), if_pos (by omega)] at this
          exact this
    · rw [if_neg hz, if_neg (fun h => hz h.1)]
      exact Tells.pos rfl (Tells.now _)
theorem both_ChangeBase_no {a b c : Int} (h : ¬ InB b a) : Tells (fun k => spec_ChangeBase.f k a b c) (-1) ∧ Tells (fun k => impl_ChangeBase.f k a b c) (-1) :=
  ⟨Tells.bind (specInBase_no h) (Tells.pos rfl (Tells.now _)), Tells.bind (implInBase_no h) (Tells.pos rfl (Tells.now _))⟩
theorem both_ChangeBase (a b c : Int) : ∃ r, -1 ≤ r ∧ r ≤ 1000000000 ∧ Tells (fun k => spec_ChangeBase.f k a b c) r ∧ Tells (fun k => impl_ChangeBase.f k a b c) r := by
  by_cases h : InB b a
  · obtain ⟨x, hx, _, g⟩ := both_ChangeBase' h
    have hr : -1 ≤ changev c x ∧ changev c x ≤ 1000000000 := by
      unfold changev
      split
      · next h => exact slowv_range (by omega) hx.nf
      · omega
    exact ⟨_, hr.1, hr.2, (g c).1, (g c).2⟩
  · exact ⟨-1, by omega, by omega, (both_ChangeBase_no h).1, (both_ChangeBase_no h).2⟩
end Go.Proofs.Ytpgkpahhohfmhaa.P

namespace Go.Proofs.Ytpgkpahhohfmhaa.P
open OM Go.RowKit Go.Proofs.YtpgkpahhohfmhaaW.PrintWords Go.Proofs.YtpgkpahhohfmhaaW.PrintLast Go.Proofs.YtpgkpahhohfmhaaW.PrintMore
set_option linter.unusedVariables false

theorem byte_range {x : Int} (h : (Lit.int .u8 x).wf = true) : 0 ≤ x ∧ x ≤ 255 := by
  simp [Lit.wf, IntKind.min, IntKind.max, IntKind.signed, IntKind.bits] at h
  omega
/-- drawn from: bytes, not too many -/
def Bytes (b : List Int) : Prop := (b.length : Int) ≤ 2000 ∧ ∀ x ∈ b, 0 ≤ x ∧ x ≤ 255
theorem open_ev {l : List Int} (h : ∀ x ∈ l, (Lit.int .u8 x).wf = true) : ∃ b, Bytes b ∧ spec_l20Open.f l = some (b, 0) := by
  unfold spec_l20Open.f
  by_cases g : (l.length : Int) > 2000
  · refine ⟨l.take 2000, ⟨by simp; omega, fun x hx => byte_range (h x (List.mem_of_mem_take hx))⟩, ?_⟩
    rw [if_pos g, if_pos (by omega)]
  · refine ⟨l, ⟨by omega, fun x hx => byte_range (h x hx)⟩, ?_⟩
    rw [if_neg g]
theorem bytes_rd {b : List Int} (h : Bytes b) (i : Int) : 0 ≤ rd b i ∧ rd b i ≤ 255 := by
  show 0 ≤ b.getD i.toNat 0 ∧ b.getD i.toNat 0 ≤ 255
  rw [List.getD_eq_getElem?_getD]
  cases hj : b[i.toNat]? with
  | none => simp
  | some v =>
    obtain ⟨hjl, hjp⟩ := List.getElem?_eq_some_iff.1 hj
    have := h.2 v (by rw [← hjp]; exact List.getElem_mem hjl)
    simpa using this
theorem xor_nonneg {x y : Int} (hx : 0 ≤ x) (hx' : x ≤ 1000000000000000000) (hy : 0 ≤ y) (hy' : y ≤ 1000000000000000000) : 0 ≤ Go.bits .xor .i64 x y := by
  unfold Go.bits
  show 0 ≤ IntKind.i64.wrap ((BitVec.ofInt 64 x ^^^ BitVec.ofInt 64 y).toNat : Int)
  have h1 : (BitVec.ofInt 64 x ^^^ BitVec.ofInt 64 y).toNat < 2 ^ 63 := by
    rw [BitVec.toNat_xor]
    refine Nat.xor_lt_two_pow ?_ ?_
    · rw [BitVec.toNat_ofInt]; omega
    · rw [BitVec.toNat_ofInt]; omega
  rw [i64_w]
  unfold wrap64
  omega
theorem mix_range {r1 r2 p q : Int} (h1 : 0 ≤ r1 ∧ r1 ≤ 255) (h2 : 0 ≤ r2 ∧ r2 ≤ 255) (h3 : 0 ≤ p ∧ p ≤ 1000000000) (h4 : 0 ≤ q ∧ q ≤ 1000000000) :
    0 ≤ wrap64 ((wrap64 ((wrap64 ((wrap64 ((wrap64 r1) * 131)) + (wrap64 ((wrap64 r2) * 1117)))) + (wrap64 (p * 29)))) + (wrap64 ((wrap64 q) * 53))) ∧ wrap64 ((wrap64 ((wrap64 ((wrap64 ((wrap64 r1) * 131)) + (wrap64 ((wrap64 r2) * 1117)))) + (wrap64 (p * 29)))) + (wrap64 ((wrap64 q) * 53))) ≤ 1000000000000 := by
  rw [wrap_id (i := r1) (by omega) (by omega), wrap_id (i := r2) (by omega) (by omega), wrap_id (i := q) (by omega) (by omega), wrap_id (i := r1 * 131) (by omega) (by omega), wrap_id (i := r2 * 1117) (by omega) (by omega), wrap_id (i := p * 29) (by omega) (by omega), wrap_id (i := q * 53) (by omega) (by omega), wrap_id (i := r1 * 131 + r2 * 1117) (by omega) (by omega), wrap_id (i := r1 * 131 + r2 * 1117 + p * 29) (by omega) (by omega), wrap_id (i := r1 * 131 + r2 * 1117 + p * 29 + q * 53) (by omega) (by omega)]
  omega
theorem shift_ok {x : Int} (h : 0 ≤ x ∧ x ≤ 1000000000000) : 0 ≤ Go.bits .xor .i64 x (wrap64 (Int.tdiv x 64)) := by
  have h1 : Int.tdiv x 64 = x / 64 := Int.tdiv_eq_ediv_of_nonneg h.1
  rw [h1]
  refine xor_nonneg h.1 (by omega) ?_ ?_ <;> (unfold wrap64; omega)
theorem tmod_range {x a : Int} (hx : 0 ≤ x) (ha : 1 ≤ a) : 0 ≤ Int.tmod x a ∧ Int.tmod x a < a := by
  rw [Int.tmod_eq_emod_of_nonneg hx]
  exact ⟨Int.emod_nonneg _ (by omega), Int.emod_lt_of_pos _ (by omega)⟩
theorem tdiv_range {x a : Int} (hx : 0 ≤ x) (ha : 1 ≤ a) : 0 ≤ Int.tdiv x a ∧ Int.tdiv x a ≤ x := by
  rw [Int.tdiv_eq_ediv_of_nonneg hx]
  exact ⟨Int.ediv_nonneg hx (by omega), Int.ediv_le_self _ hx⟩
theorem pick_ev {b : List Int} (hb : Bytes b) {p a : Int} (hp : 0 ≤ p) (hp' : p ≤ 1000000000) : ∃ v, 0 ≤ v ∧ (1 ≤ a → v < a) ∧ Tells (fun k => spec_l20Rd_pick.f k b p a) (v, p + 1) := by
  have hw : wrap64 (p + 1) = p + 1 := wrap_id (by omega) (by omega)
  have hw' : wrap64 (p + 1 - 1) = p := by rw [wrap_id (by omega) (by omega)]; omega
  have hl := hb.1
  by_cases h1 : a < 1
  · refine ⟨0, by omega, by omega, ?_⟩
    refine Tells.pos h1 ?_
    refine Tells.step (fun k => by rw [spec_l20Rd_pick.j0]) ?_
    rw [hw]
    exact Tells.pos rfl (Tells.now _)
  · by_cases h2 : b = []
    · refine ⟨0, by omega, by omega, ?_⟩
      refine Tells.neg h1 ?_
      subst h2
      refine Tells.step (fun k => by rw [spec_l20Rd_pick.j0]) ?_
      rw [hw]
      exact Tells.pos rfl (Tells.now _)
    · have hlen : 1 ≤ (b.length : Int) := by have := List.length_pos_iff.2 h2; omega
      have hflag : ((b.length : Int) == 0) = false := by simp; exact h2
      have start : ∀ v, Tells (fun k => spec_l20Rd_pick.j0 k a false b (p + 1)) (v, p + 1) → Tells (fun k => spec_l20Rd_pick.f k b p a) (v, p + 1) := by
        intro v h
        refine Tells.neg h1 ?_
        rw [hflag, hw]; exact h
      by_cases h3 : p < (b.length : Int)
      · have hr := bytes_rd hb p
        have hwr : wrap64 (rd b p) = rd b p := wrap_id (by omega) (by omega)
        have ht := tmod_range (x := rd b p) (a := a) hr.1 (by omega)
        refine ⟨Int.tmod (rd b p) a, ht.1, fun _ => ht.2, start _ ?_⟩
        refine Tells.step (fun k => by rw [spec_l20Rd_pick.j0]) ?_
        refine Tells.neg (by simp) ?_
        rw [hw', hwr]
        refine Tells.pos h3 ?_
        refine Tells.pos hp ?_
        refine Tells.neg (by omega) ?_
        exact Tells.now _
      · have i1 := tmod_range (x := p) (a := (b.length : Int)) hp hlen
        have e2 : wrap64 (wrap64 (p * 7) + 3) = p * 7 + 3 := by rw [wrap_id (i := p * 7) (by omega) (by omega), wrap_id (by omega) (by omega)]
        have i2 := tmod_range (x := p * 7 + 3) (a := (b.length : Int)) (by omega) hlen
        have q1 := tdiv_range (x := p) (a := (b.length : Int)) hp hlen
        have hx := shift_ok (mix_range (bytes_rd hb (Int.tmod p (b.length : Int))) (bytes_rd hb (Int.tmod (p * 7 + 3) (b.length : Int))) ⟨hp, hp'⟩ ⟨q1.1, by omega⟩)
        have ht := tmod_range (a := a) hx (by omega)
        refine ⟨_, ht.1, fun _ => ht.2, start _ ?_⟩
        refine Tells.step (fun k => by rw [spec_l20Rd_pick.j0]) ?_
        refine Tells.neg (by simp) ?_
        rw [hw', e2]
        refine Tells.neg h3 ?_
        refine Tells.neg (by omega) ?_
        refine Tells.pos i1.1 ?_
        refine Tells.pos i1.2 ?_
        refine Tells.pos i2.1 ?_
        refine Tells.pos i2.2 ?_
        refine Tells.neg (by omega) ?_
        exact Tells.now _
end Go.Proofs.Ytpgkpahhohfmhaa.P

namespace Go.Proofs.Ytpgkpahhohfmhaa.P
open OM Go.RowKit Go.Proofs.YtpgkpahhohfmhaaW.PrintWords Go.Proofs.YtpgkpahhohfmhaaW.PrintLast Go.Proofs.YtpgkpahhohfmhaaW.PrintMore
set_option linter.unusedVariables false

theorem count_ev {b : List Int} (hb : Bytes b) {p : Int} (hp : 0 ≤ p) (hp' : p ≤ 100000000) : ∃ v p', p ≤ p' ∧ p' ≤ p + 10 ∧ Tells (fun k => spec_l20Count.f k b p) (v, p') := by
  obtain ⟨v0, _, _, t0⟩ := pick_ev hb (a := 4) hp (by omega)
  by_cases h0 : v0 = 0
  · obtain ⟨v1, _, _, t1⟩ := pick_ev hb (p := p + 1) (a := 20) (by omega) (by omega)
    exact ⟨_, _, by omega, by omega, Tells.bind t0 (Tells.pos h0 (Tells.bind t1 (Tells.now _)))⟩
  · by_cases h1 : v0 = 1
    · obtain ⟨v1, _, _, t1⟩ := pick_ev hb (p := p + 1) (a := 256) (by omega) (by omega)
      obtain ⟨v2, _, _, t2⟩ := pick_ev hb (p := p + 1 + 1) (a := 256) (by omega) (by omega)
      exact ⟨_, _, by omega, by omega, Tells.bind t0 (Tells.neg h0 (Tells.pos h1 (Tells.bind t1 (Tells.bind t2 (Tells.now _)))))⟩
    · by_cases h2 : v0 = 2
      · obtain ⟨v1, _, _, t1⟩ := pick_ev hb (p := p + 1) (a := 256) (by omega) (by omega)
        obtain ⟨v2, _, _, t2⟩ := pick_ev hb (p := p + 1 + 1) (a := 256) (by omega) (by omega)
        obtain ⟨v3, _, _, t3⟩ := pick_ev hb (p := p + 1 + 1 + 1) (a := 256) (by omega) (by omega)
        obtain ⟨v4, _, _, t4⟩ := pick_ev hb (p := p + 1 + 1 + 1 + 1) (a := 256) (by omega) (by omega)
        exact ⟨_, _, by omega, by omega, Tells.bind t0 (Tells.neg h0 (Tells.neg h1 (Tells.pos h2 (Tells.bind t1 (Tells.bind t2 (Tells.bind t3 (Tells.bind t4 (Tells.now _))))))))⟩
      · obtain ⟨v1, _, _, t1⟩ := pick_ev hb (p := p + 1) (a := 256) (by omega) (by omega)
        exact ⟨_, _, by omega, by omega, Tells.bind t0 (Tells.neg h0 (Tells.neg h1 (Tells.neg h2 (Tells.bind t1 (Tells.now _)))))⟩
theorem root_ev {b : List Int} (hb : Bytes b) {p : Int} (hp : 0 ≤ p) (hp' : p ≤ 100000000) : ∃ v p', p ≤ p' ∧ p' ≤ p + 10 ∧ Tells (fun k => spec_l20Root.f k b p) (v, p') := by
  obtain ⟨v1, _, _, t1⟩ := pick_ev hb (a := 9) hp (by omega)
  obtain ⟨v2, _, _, t2⟩ := pick_ev hb (p := p + 1) (a := 12) (by omega) (by omega)
  obtain ⟨v3, _, _, t3⟩ := pick_ev hb (p := p + 1 + 1) (a := 90) (by omega) (by omega)
  obtain ⟨v4, _, _, t4⟩ := pick_ev hb (p := p + 1 + 1 + 1) (a := 40) (by omega) (by omega)
  exact ⟨_, _, by omega, by omega, Tells.bind t1 (Tells.bind t2 (Tells.bind t3 (Tells.bind t4 (Tells.now _))))⟩
end Go.Proofs.Ytpgkpahhohfmhaa.P

namespace Go.Proofs.Ytpgkpahhohfmhaa.Pure
open OM Go.RowKit Go.Proofs.Ytpgkpahhohfmhaa.P Go.Proofs.YtpgkpahhohfmhaaW.PrintWords Go.Proofs.YtpgkpahhohfmhaaW.PrintLast Go.Proofs.YtpgkpahhohfmhaaW.PrintMore
set_option linter.unusedVariables false

theorem draw {l : List Int} (h : ∀ x ∈ l, (Lit.int .u8 x).wf = true) : ∃ n a b : Int, Tells (fun k => spec_DrawChangeBase.f k l) (n, a, b) := by
  obtain ⟨b, hb, ho⟩ := open_ev h
  obtain ⟨v1, p1, _, _, t1⟩ := count_ev hb (p := 0) (by omega) (by omega)
  obtain ⟨v2, p2, _, _, t2⟩ := root_ev hb (p := p1) (by omega) (by omega)
  obtain ⟨v3, p3, _, _, t3⟩ := root_ev hb (p := p2) (by omega) (by omega)
  exact ⟨_, _, _, Tells.bind (Tells.const ho) (Tells.bind t1 (Tells.bind t2 (Tells.bind t3 (Tells.now _))))⟩
theorem FnChangeBase : laws_FnChangeBase.Pure := by
  intro l h1 h2 h3
  refine Tells.rounds (?_ : Tells (fun k => laws_FnChangeBase.f k l) true)
  by_cases h : (l.length : Int) > 1048576
  · exact Tells.pos h (Tells.now _)
  · refine Tells.neg h ?_
    obtain ⟨n, a, c, hd⟩ := draw h3
    refine Tells.bind hd ?_
    have none_ : ∀ r : Int, r = -1 → Tells (fun k => if r = -1 then ((laws_alive.f k).bind fun t506 => (some t506)) else (some false)) true := fun r e => Tells.pos e (Tells.bind alive_ev (Tells.now _))
    by_cases hin : InB a n
    · obtain ⟨x, hx, ti, tc⟩ := both_ChangeBase' hin
      obtain ⟨i1, i2, i3, i4⟩ := hin
      have hva := val_nonneg (n := a) (by omega) hx.nf
      refine Tells.bind (tc c).2 ?_
      refine Tells.bind (tc c).1 ?_
      refine Tells.pos rfl ?_
      by_cases hm : changev c x < 0
      · have e : changev c x = -1 := by
          unfold changev at hm ⊢
          split
          · next g =>
            rw [if_pos g] at hm
            have := slowv_range (n := c) (by omega) hx.nf
            omega
          · rfl
        exact Tells.pos hm (none_ _ e)
      · refine Tells.neg hm ?_
        have hz : size x ≤ 60 ∧ 2 ≤ c ∧ c ≤ 90 := by
          by_cases g : size x ≤ 60 ∧ 2 ≤ c ∧ c ≤ 90
          · exact g
          · exact absurd (by unfold changev; rw [if_neg g]; omega) hm
        have hsv : slowv c x = val c x ∧ val c x ≤ 1000000000 := by
          unfold changev at hm
          rw [if_pos hz] at hm
          unfold slowv at hm ⊢
          by_cases g : val c x > 1000000000
          · rw [if_pos g] at hm; omega
          · rw [if_neg g]; exact ⟨rfl, by omega⟩
        have ec : changev c x = val c x := by unfold changev; rw [if_pos hz]; exact hsv.1
        have ea : changev a x = n := by
          unfold changev
          rw [if_pos ⟨hz.1, by omega, by omega⟩]
          unfold slowv
          rw [hx.val, if_neg (by omega)]
        have ef : fit x = row x := by unfold fit; rw [if_pos hz.1]
        have hV := IB_vd hx i4 hz.1
        rw [ec]
        refine Tells.bind ti ?_
        refine Tells.bind (tc a).2 ?_
        refine Tells.pos ea ?_
        rw [ef]
        have hsl : slowValv (row x) c = val c x := by rw [slowValv_some (ordOf_row hV), if_pos (by omega)]; exact hsv.1
        have last : Tells (fun k => (impl_SlowValue.f k (row x) c).bind fun t516 => (some (t516 == val c x))) true := by
          refine Tells.bind implSlowValue_ev ?_
          rw [hsl]
          exact Tells.to (Tells.now _) (by simp)
        by_cases hca : c < a
        · exact Tells.pos hca last
        · refine Tells.neg hca ?_
          have hb := val_base (n := a) (m := c) (by omega) (by omega) hx.nf
          rw [hx.val] at hb
          refine Tells.pos hb ?_
          obtain ⟨y, hy, _, ty⟩ := both_OrdInBase' (a := val c x) (b := c) ⟨by omega, hsv.2, hz.2.1, hz.2.2⟩
          have exy : y = x := val_inj (n := c) (by omega) hy.nf hx.nf hy.most (by have := hx.most; omega) hy.val
          subst exy
          refine Tells.bind ty ?_
          rw [ef]
          refine Tells.bind (sameInts_ev (by rw [row_length]; omega)) ?_
          refine Tells.pos (by simp) ?_
          exact last
    · refine Tells.bind (both_ChangeBase_no hin).2 ?_
      refine Tells.bind (both_ChangeBase_no hin).1 ?_
      refine Tells.pos rfl ?_
      refine Tells.pos (by omega) ?_
      exact none_ _ rfl
end Go.Proofs.Ytpgkpahhohfmhaa.Pure
