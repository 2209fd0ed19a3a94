/- Numbers are ordinals in their order: the law's pure statement. -/
import Derived.Test.YtninfokihgbgpaaP0
import Derived.Test.YtninfokihgbgpaaMath
import Derived.Test.YtninfokihgbgpaaPcmpCompareint
import Derived.Test.YtninfokihgbgpaaPimplcompare
import Derived.Test.YtninfokihgbgpaaPimpltakeOrd
import Derived.Test.YtninfokihgbgpaaPimplordOf
import Derived.Test.YtninfokihgbgpaaPimplrowOf
import Derived.Test.YtninfokihgbgpaaPimplsizeOf
import Derived.Test.YtninfokihgbgpaaPimplmost
import Derived.Test.YtninfokihgbgpaaPslicesClipintint
import Derived.Test.YtninfokihgbgpaaPimpltold
import Derived.Test.YtninfokihgbgpaaPspecl1In
import Derived.Test.YtninfokihgbgpaaPspecl1Span
import Derived.Test.YtninfokihgbgpaaPspecl1Terms
import Derived.Test.YtninfokihgbgpaaPspecl1Compare
import Derived.Test.YtninfokihgbgpaaPspecl1Make
import Derived.Test.YtninfokihgbgpaaPspecOrdOf
import Derived.Test.YtninfokihgbgpaaPimplOrdOf
import Derived.Test.YtninfokihgbgpaaPimplnumber
import Derived.Test.YtninfokihgbgpaaPlawssameInts
import Derived.Test.YtninfokihgbgpaaPlawsalive
import Derived.Test.YtninfokihgbgpaaPspecl1End
import Derived.Test.YtninfokihgbgpaaPspecOrdValid
import Derived.Test.YtninfokihgbgpaaPspecOrdCompare
import Derived.Test.YtninfokihgbgpaaPimplOrdCompare
import Derived.Test.YtninfokihgbgpaaPspecOrdNumber
import Derived.Test.YtninfokihgbgpaaPimplOrdNumber
import Derived.Test.YtninfokihgbgpaaPspecOrdMost
import Derived.Test.YtninfokihgbgpaaPimplOrdMost
import Derived.Test.YtninfokihgbgpaaPspecOrdDepth
import Derived.Test.YtninfokihgbgpaaPimplOrdDepth
import Derived.Test.YtninfokihgbgpaaPimplOrdValid
import Derived.Test.YtninfokihgbgpaaPspecOrdKind
import Derived.Test.YtninfokihgbgpaaPimplkind
import Derived.Test.YtninfokihgbgpaaPimplOrdKind
import Derived.Test.YtninfokihgbgpaaPimpladd
import Derived.Test.YtninfokihgbgpaaPspecOrdNext
import Derived.Test.YtninfokihgbgpaaPimplOrdNext
import Derived.Test.YtninfokihgbgpaaPspecl20Open
import Derived.Test.YtninfokihgbgpaaPspecl20Rdpick
import Derived.Test.YtninfokihgbgpaaPlawsFnOrdOf
import Derived.Test.YtninfokihgbgpaaPspecDrawOrdOf
namespace Go.Proofs.Ytninfokihgbgpaa.P
open OM Go.RowKit Go.Proofs.YtninfokihgbgpaaW.PrintWords Go.Proofs.YtninfokihgbgpaaW.PrintLast Go.Proofs.YtninfokihgbgpaaW.PrintMore
set_option linter.unusedVariables false

theorem wrap_id {i : Int} (h0 : -9000000000000000000 ≤ i) (h : i ≤ 9000000000000000000) : wrap64 i = i := by unfold wrap64; omega
theorem getD_mid {α : Type} (p s : List α) (c d : α) {i : Int} (hi : i = (p.length : Int)) : (p ++ c :: s).getD i.toNat d = c := by subst hi; simp
theorem rd_mid (p s : List Int) (c : Int) {i : Int} (hi : i = (p.length : Int)) : rd (p ++ c :: s) i = c := getD_mid p s c 0 hi
theorem rdT_mid (p s : O) (c : Tm) {i : Int} (hi : i = (p.length : Int)) : rd_T56 (p ++ c :: s) i = c := getD_mid p s c _ hi
theorem rdL_mid (p s : List (List Int)) (c : List Int) {i : Int} (hi : i = (p.length : Int)) : rd_L3 (p ++ c :: s) i = c := getD_mid p s c _ hi
theorem snoc {α : Type} (p s : List α) (c : α) : p ++ c :: s = (p ++ [c]) ++ s := by simp
theorem size_append (p r : O) : size (p ++ r) = size p + size r - 1 := by
  induction p with
  | nil => rw [size_nil]; show size r = _; omega
  | cons t p ih => obtain ⟨c, e⟩ := t; show size (⟨c, e⟩ :: (p ++ r)) = _; rw [size_cons, size_cons, ih]; omega

/-! #### comparing -/
theorem cmpInt (a b : Int) : cmp_Compare_int.f a b = some (if a < b then -1 else if b < a then 1 else 0) := by
  unfold cmp_Compare_int.f cmp_isNaN_int.f
  simp only [Option.bind_some, bne_self_eq_false, Bool.false_eq_true, if_false]
  split
  · rfl
  · split <;> rfl
theorem compare_f (k : Nat) (x y : O) : impl_compare.f (k + 1) x y = impl_compare.l0 k x y 0 := by rw [impl_compare.f]
theorem compare_l : ∀ (r p q s : O), p.length = q.length → size (p ++ r) ≤ 10000000000 → size (q ++ s) ≤ 10000000000 → Tells (fun k => impl_compare.l0 k (p ++ r) (q ++ s) (p.length : Int)) (cmp r s) := by
  intro r
  induction r using ind with
  | h0 =>
    intro p q s hl h1 h2
    have hs := length_le_size (p ++ [])
    have hq := length_le_size (q ++ s)
    refine Tells.step (fun k => by rw [impl_compare.l0]) ?_
    refine Tells.neg (by simp) ?_
    refine Tells.step (fun k => by rw [impl_compare.j1]) ?_
    refine Tells.neg (by simp) ?_
    refine Tells.bind (Tells.const (cmpInt _ _)) ?_
    refine Tells.to (Tells.now _) ?_
    simp only [List.length_append, List.length_nil, Nat.add_zero]
    cases s with
    | nil => rw [cmp_nn, if_neg (by simp; omega), if_neg (by simp; omega)]
    | cons t s => rw [cmp_nc, if_pos (by simp; omega)]
  | h1 c e r ihe ihr =>
    intro p q s hl h1 h2
    have hp := length_le_size p
    have hs := length_le_size (p ++ (⟨c, e⟩ :: r))
    have hq := length_le_size (q ++ s)
    refine Tells.step (fun k => by rw [impl_compare.l0]) ?_
    refine Tells.pos (by simp; omega) ?_
    refine Tells.step (fun k => by rw [impl_compare.j1]) ?_
    cases s with
    | nil =>
      refine Tells.neg (by simp; omega) ?_
      refine Tells.bind (Tells.const (cmpInt _ _)) ?_
      refine Tells.to (Tells.now _) ?_
      rw [cmp_cn, if_neg (by simp; omega), if_pos (by simp; omega)]
    | cons t s =>
      obtain ⟨d, f⟩ := t
      refine Tells.pos (by simp; omega) ?_
      refine Tells.pos (by omega) ?_
      refine Tells.pos (by simp; omega) ?_
      refine Tells.pos (by simp; omega) ?_
      rw [rdT_mid p r ⟨c, e⟩ rfl, rdT_mid q s ⟨d, f⟩ (by rw [hl])]
      have z1 := h1
      have z2 := h2
      rw [size_append, size_cons] at z1 z2
      have := size_pos r
      have := size_pos s
      have := size_pos p
      have := size_pos q
      have := size_pos e
      have := size_pos f
      refine Tells.bind (Tells.step (fun k => compare_f k e f) (ihe [] [] f rfl (by show size e ≤ _; omega) (by show size f ≤ _; omega))) ?_
      show Tells (fun k => if cmp e f = 0 then _ else _) _
      rw [cmp_cc]
      by_cases z : cmp e f = 0
      · refine Tells.pos z ?_
        rw [if_pos z]
        refine Tells.bind (Tells.const (cmpInt _ _)) ?_
        by_cases a : c < d
        · rw [if_pos a, if_pos a]
          exact Tells.neg (by omega) (Tells.now _)
        · by_cases b : d < c
          · rw [if_neg a, if_pos b, if_neg a, if_pos b]
            exact Tells.neg (by omega) (Tells.now _)
          · rw [if_neg a, if_neg b, if_neg a, if_neg b]
            refine Tells.pos rfl ?_
            rw [snoc p, snoc q, wrap_id (by omega) (by omega)]
            have := ihr (p ++ [⟨c, e⟩]) (q ++ [⟨d, f⟩]) s (by simp [hl]) (by rw [← snoc]; exact h1) (by rw [← snoc]; exact h2)
            rw [show ((p ++ [(⟨c, e⟩ : Tm)]).length : Int) = (p.length : Int) + 1 by simp] at this
            exact this
      · refine Tells.neg z ?_
        rw [if_neg z]
        exact Tells.now _
theorem compare_ev {x y : O} (hx : size x ≤ 10000000000) (hy : size y ≤ 10000000000) : Tells (fun k => impl_compare.f k x y) (cmp x y) :=
  Tells.step (fun k => compare_f k x y) (compare_l x [] [] y rfl hx hy)

/-! #### rows, sizes, greatest numbers -/
theorem rowOf_f (k : Nat) (x : O) : impl_rowOf.f (k + 1) x = impl_rowOf.l0 k [(x.length : Int)] x (x.length : Int) 0 := by rw [impl_rowOf.f]
theorem rowOf_l : ∀ (r p : O) (acc : List Int), size (p ++ r) ≤ 10000000000 → (acc.length : Int) + size r ≤ 20000000000 → Tells (fun k => impl_rowOf.l0 k acc (p ++ r) ((p ++ r).length : Int) (p.length : Int)) (acc ++ flat r) := by
  intro r
  induction r using ind with
  | h0 =>
    intro p acc h1 h2
    refine Tells.step (fun k => by rw [impl_rowOf.l0]) ?_
    refine Tells.neg (by simp) ?_
    refine Tells.to (Tells.now _) ?_
    rw [flat_nil, List.append_nil]
  | h1 c e r ihe ihr =>
    intro p acc h1 h2
    have hp := length_le_size p
    have z1 := h1
    rw [size_append, size_cons] at z1
    rw [size_cons] at h2
    have := size_pos r
    have := size_pos p
    have := size_pos e
    refine Tells.step (fun k => by rw [impl_rowOf.l0]) ?_
    refine Tells.pos (by simp; omega) ?_
    refine Tells.pos (by omega) ?_
    refine Tells.pos (by simp; omega) ?_
    refine Tells.pos (by omega) ?_
    refine Tells.sbind ?_
    rw [rdT_mid p r ⟨c, e⟩ rfl]
    refine Tells.bind (Tells.step (fun k => rowOf_f k e) (ihe [] [(e.length : Int)] (by show size e ≤ _; omega) (by simp; omega))) ?_
    have hl := row_length e
    have he : ([(e.length : Int)] ++ flat e) = row e := rfl
    rw [he]
    refine Tells.pos (by simp only [List.length_append, List.length_cons, List.length_nil]; omega) ?_
    rw [wrap_id (by omega) (by omega), snoc p]
    have := ihr (p ++ [⟨c, e⟩]) (acc ++ [c] ++ row e) (by rw [← snoc]; exact h1) (by simp only [List.length_append, List.length_cons, List.length_nil]; omega)
    rw [show ((p ++ [(⟨c, e⟩ : Tm)]).length : Int) = (p.length : Int) + 1 by simp] at this
    refine Tells.to this ?_
    rw [flat_cons]; simp
theorem rowOf_ev {x : O} (hx : size x ≤ 10000000000) : Tells (fun k => impl_rowOf.f k x) (row x) :=
  Tells.step (fun k => rowOf_f k x) (rowOf_l x [] [(x.length : Int)] hx (by simp; omega))
theorem sizeOf_f (k : Nat) (x : O) : impl_sizeOf.f (k + 1) x = impl_sizeOf.l0 k 1 x (x.length : Int) 0 := by rw [impl_sizeOf.f]
theorem sizeOf_l : ∀ (r p : O) (n : Int), size (p ++ r) ≤ 10000000000 → 0 ≤ n → n + size r ≤ 20000000000 → Tells (fun k => impl_sizeOf.l0 k n (p ++ r) ((p ++ r).length : Int) (p.length : Int)) (n + size r - 1) := by
  intro r
  induction r using ind with
  | h0 =>
    intro p n h1 h2 h3
    refine Tells.step (fun k => by rw [impl_sizeOf.l0]) ?_
    refine Tells.neg (by simp) ?_
    refine Tells.to (Tells.now _) ?_
    rw [size_nil]; omega
  | h1 c e r ihe ihr =>
    intro p n h1 h2 h3
    have hp := length_le_size p
    have z1 := h1
    rw [size_append, size_cons] at z1
    rw [size_cons] at h3 ⊢
    have := size_pos r
    have := size_pos p
    have := size_pos e
    refine Tells.step (fun k => by rw [impl_sizeOf.l0]) ?_
    refine Tells.pos (by simp; omega) ?_
    refine Tells.pos (by omega) ?_
    refine Tells.pos (by simp; omega) ?_
    rw [rdT_mid p r ⟨c, e⟩ rfl]
    refine Tells.bind (Tells.step (fun k => sizeOf_f k e) (ihe [] 1 (by show size e ≤ _; omega) (by omega) (by omega))) ?_
    rw [wrap_id (i := (p.length : Int) + 1) (by omega) (by omega), wrap_id (i := 1 + (1 + size e - 1)) (by omega) (by omega), wrap_id (i := n + (1 + (1 + size e - 1))) (by omega) (by omega), snoc p]
    have := ihr (p ++ [⟨c, e⟩]) (n + (1 + (1 + size e - 1))) (by rw [← snoc]; exact h1) (by omega) (by omega)
    rw [show ((p ++ [(⟨c, e⟩ : Tm)]).length : Int) = (p.length : Int) + 1 by simp] at this
    exact Tells.to this (by omega)
theorem sizeOf_ev {x : O} (hx : size x ≤ 10000000000) : Tells (fun k => impl_sizeOf.f k x) (size x) :=
  Tells.to (Tells.step (fun k => sizeOf_f k x) (sizeOf_l x [] 1 hx (by omega) (by omega))) (by omega)
theorem mx_max (a b : Int) : mx a b = max a b := by unfold mx; omega
theorem most_f (k : Nat) (x : O) : impl_most.f (k + 1) x = impl_most.l0 k 0 x (x.length : Int) 0 := by rw [impl_most.f]
theorem most_l : ∀ (r p : O) (n : Int), size (p ++ r) ≤ 10000000000 → 0 ≤ n → Tells (fun k => impl_most.l0 k n (p ++ r) ((p ++ r).length : Int) (p.length : Int)) (max n (most r)) := by
  intro r
  induction r using ind with
  | h0 =>
    intro p n h1 h2
    refine Tells.step (fun k => by rw [impl_most.l0]) ?_
    refine Tells.neg (by simp) ?_
    refine Tells.to (Tells.now _) ?_
    rw [most_nil]; omega
  | h1 c e r ihe ihr =>
    intro p n h1 h2
    have hp := length_le_size p
    have z1 := h1
    rw [size_append, size_cons] at z1
    have := size_pos r
    have := size_pos p
    have := size_pos e
    have := most_pos e
    refine Tells.step (fun k => by rw [impl_most.l0]) ?_
    refine Tells.pos (by simp; omega) ?_
    refine Tells.pos (by omega) ?_
    refine Tells.pos (by simp; omega) ?_
    rw [rdT_mid p r ⟨c, e⟩ rfl]
    refine Tells.bind (Tells.step (fun k => most_f k e) (ihe [] 0 (by show size e ≤ _; omega) (by omega))) ?_
    rw [wrap_id (i := (p.length : Int) + 1) (by omega) (by omega), mx_max, mx_max, snoc p]
    have := ihr (p ++ [⟨c, e⟩]) (max (max n c) (max 0 (most e))) (by rw [← snoc]; exact h1) (by omega)
    rw [show ((p ++ [(⟨c, e⟩ : Tm)]).length : Int) = (p.length : Int) + 1 by simp] at this
    refine Tells.to this ?_
    rw [most_cons]; omega
theorem most_ev {x : O} (hx : size x ≤ 10000000000) : Tells (fun k => impl_most.f k x) (most x) :=
  Tells.to (Tells.step (fun k => most_f k x) (most_l x [] 0 hx (by omega))) (by have := most_pos x; omega)
/-- what told tells -/
def toldv (x : O) : List Int × Bool := if size x ≤ 60 ∧ most x ≤ 9999 then (row x, true) else ([], false)
theorem told_ev {x : O} (hx : size x ≤ 10000000000) : Tells (fun k => impl_told.f k x) (toldv x) := by
  unfold toldv
  refine Tells.bind (sizeOf_ev hx) ?_
  by_cases h : size x > 60
  · refine Tells.pos h ?_
    refine Tells.step (fun k => by rw [impl_told.j0]) ?_
    refine Tells.pos rfl ?_
    rw [if_neg (by omega)]; exact Tells.now _
  · refine Tells.neg h ?_
    refine Tells.bind (most_ev hx) ?_
    refine Tells.step (fun k => by rw [impl_told.j0]) ?_
    by_cases g : most x > 9999
    · refine Tells.pos (decide_eq_true g) ?_
      rw [if_neg (by omega)]; exact Tells.now _
    · refine Tells.neg (by simp; omega) ?_
      rw [if_pos (by omega)]
      refine Tells.bind (rowOf_ev hx) ?_
      exact Tells.now _

/-! #### reading a row: the program -/
theorem rd_zero (a : Int) (l : List Int) : rd (a :: l) 0 = a := rfl
theorem takeOrd_l {n : Nat} (ih : ∀ l : List Int, l.length < n → (l.length : Int) ≤ 100000000 → Tells (fun k => impl_takeOrd.f k l) (match take n l with | none => ([], [], false) | some (x, l') => (x, l', true))) :
    ∀ (c : Nat) (acc : O) (l : List Int) (last : Option O) (m : Int), l.length ≤ n → (l.length : Int) ≤ 100000000 → m = (acc.length : Int) + c → 0 ≤ m → m ≤ 60 → size acc + (l.length : Int) ≤ 200000000 →
      (∀ t a, acc = a ++ [t] → last = some t.f1) → (acc = [] → last = none) →
      Tells (fun k => impl_takeOrd.l0 k l acc m (acc.length : Int)) (match terms (take n) c last l with | none => ([], [], false) | some (x, l') => (acc ++ x, l', true)) := by
  intro c
  induction c with
  | zero =>
    intro acc l last m h1 h1' h2 h3 h4 hz h5 h6
    refine Tells.step (fun k => by rw [impl_takeOrd.l0]) ?_
    refine Tells.neg (by omega) ?_
    refine Tells.to (Tells.now _) ?_
    unfold terms; simp
  | succ c ihc =>
    intro acc l last m h1 h1' h2 h3 h4 hz h5 h6
    have hacc := size_pos acc
    refine Tells.step (fun k => by rw [impl_takeOrd.l0]) ?_
    refine Tells.pos (by omega) ?_
    have bad : Tells (fun k => impl_takeOrd.j2 k l acc (acc.length : Int) m (acc.length : Int) true) (([] : O), ([] : List Int), false) := by
      refine Tells.step (fun k => by rw [impl_takeOrd.j2]) ?_
      exact Tells.pos rfl (Tells.now _)
    cases l with
    | nil =>
      refine Tells.pos rfl ?_
      refine Tells.to bad ?_
      unfold terms; rfl
    | cons t l =>
      refine Tells.neg (by simp <;> omega) ?_
      refine Tells.pos (by simp <;> omega) ?_
      rw [rd_zero, terms]
      by_cases ht : t < 1
      · refine Tells.pos ht ?_
        refine Tells.to bad ?_
        rw [if_neg (by omega)]
      · refine Tells.neg ht ?_
        by_cases ht' : t > 9999
        · rw [decide_eq_true ht']
          refine Tells.to bad ?_
          rw [if_neg (by omega)]
        · rw [decide_eq_false ht', if_pos (by omega)]
          refine Tells.step (fun k => by rw [impl_takeOrd.j2]) ?_
          refine Tells.neg (by simp) ?_
          refine Tells.pos (by simp; omega) ?_
          simp only [List.length_cons] at h1 h1' hz
          refine Tells.bind (ih l (by omega) (by omega)) ?_
          cases hk : take n l with
          | none => exact Tells.neg (by simp) (Tells.now _)
          | some q =>
            obtain ⟨e, l1⟩ := q
            simp only
            refine Tells.pos trivial ?_
            have hlen := take_len hk
            obtain ⟨a1, a2, a3⟩ := take_good _ _ _ _ hk
            have hse : size e + (l1.length : Int) = (l.length : Int) := by
              have := row_length e
              rw [a1, List.length_append]; omega
            have go : ∀ last', last' = some e → Tells (fun k => if 0 < (((t :: l).length : Nat) : Int) then (if acc.length < 4398046511104 then (impl_takeOrd.l0 k l1 (acc ++ [(⟨rd (t :: l) 0, e⟩ : Tm)]) m (wrap64 ((acc.length : Int) + 1))) else none) else none)
                (match (match terms (take n) c last' l1 with | none => none | some (r, l'') => some ((⟨t, e⟩ : Tm) :: r, l'')) with | none => ([], [], false) | some (x, l') => (acc ++ x, l', true)) := by
              intro last' hl'
              refine Tells.pos (by simp <;> omega) ?_
              refine Tells.pos (by have := length_le_size acc; omega) ?_
              rw [rd_zero, wrap_id (by omega) (by omega)]
              have := ihc (acc ++ [⟨t, e⟩]) l1 last' m (by omega) (by omega) (by simp; omega) h3 h4 (by rw [size_append, size_cons, size_nil]; omega)
                (fun t' a ha => by
                  have := List.append_inj_right' ha rfl
                  injection this with this
                  rw [hl', ← this])
                (fun ha => by simp at ha)
              rw [show ((acc ++ [(⟨t, e⟩ : Tm)]).length : Int) = (acc.length : Int) + 1 by simp] at this
              refine Tells.to this ?_
              cases terms (take n) c last' l1 with
              | none => rfl
              | some q => obtain ⟨r, l2⟩ := q; simp
            rcases List.eq_nil_or_concat acc with hacc | ⟨a, t', hacc⟩
            · have hl := h6 hacc
              subst hl
              refine Tells.neg (by rw [hacc]; simp) ?_
              have : late none e = false := rfl
              rw [if_neg (by rw [this]; simp)]
              exact go (some e) rfl
            · rw [List.concat_eq_append] at hacc
              have hl := h5 t' a hacc
              have hp : (acc.length : Int) = (a.length : Int) + 1 := by rw [hacc]; simp
              refine Tells.pos (by omega) ?_
              rw [wrap_id (by omega) (by omega)]
              refine Tells.pos (by omega) ?_
              refine Tells.pos (by omega) ?_
              have hrd : rd_T56 acc ((acc.length : Int) - 1) = t' := by
                rw [hacc]; exact rdT_mid a [] t' (by simp)
              rw [hrd]
              have hst : size t'.f1 ≤ size acc := by
                obtain ⟨ct, et⟩ := t'
                have := size_pos a
                have := size_pos et
                rw [hacc, size_append, size_cons, size_nil]; show size et ≤ _; omega
              refine Tells.bind (compare_ev (by omega) (by omega)) ?_
              subst hl
              by_cases hc : cmp e t'.f1 ≥ 0
              · refine Tells.pos hc ?_
                have : late (some t'.f1) e = true := by unfold late; simp only [decide_eq_true_eq]; exact hc
                rw [if_pos this]
                exact Tells.now _
              · refine Tells.neg hc ?_
                have : ¬ late (some t'.f1) e = true := by unfold late; simp only [decide_eq_true_eq]; exact hc
                rw [if_neg this]
                exact go (some e) rfl
theorem takeOrd_ev : ∀ (n : Nat) (l : List Int), l.length < n → (l.length : Int) ≤ 100000000 → Tells (fun k => impl_takeOrd.f k l) (match take n l with | none => ([], [], false) | some (x, l') => (x, l', true)) := by
  intro n
  induction n with
  | zero => intro l h; omega
  | succ n ih =>
    intro l h h'
    refine Tells.step (fun k => by rw [impl_takeOrd.f]) ?_
    cases l with
    | nil => refine Tells.pos rfl ?_; unfold take; exact Tells.now _
    | cons m l =>
      simp only [List.length_cons] at h h'
      refine Tells.neg (by simp <;> omega) ?_
      refine Tells.pos (by simp <;> omega) ?_
      refine Tells.pos (by simp <;> omega) ?_
      refine Tells.sbind ?_
      refine Tells.sbind ?_
      rw [rd_zero, take]
      by_cases h1 : m < 0
      · refine Tells.pos h1 ?_
        refine Tells.step (fun k => by rw [impl_takeOrd.j0]) ?_
        refine Tells.pos rfl ?_
        rw [if_neg (by omega)]; exact Tells.now _
      · refine Tells.neg h1 ?_
        refine Tells.step (fun k => by rw [impl_takeOrd.j0]) ?_
        by_cases h2 : m > 60
        · refine Tells.pos (decide_eq_true h2) ?_
          rw [if_neg (by omega)]; exact Tells.now _
        · refine Tells.neg (by simp; omega) ?_
          rw [if_pos (by omega)]
          have := takeOrd_l ih m.toNat [] l none m (by omega) (by omega) (by simp; omega) (by omega) (by omega) (by rw [size_nil]; omega) (fun t a ha => by simp at ha) (fun _ => rfl)
          exact this
/-- what ordOf tells -/
def ordv (l : List Int) : O × Bool := match ordOf l with
  | some x => (x, true)
  | none => ((if 1 ≤ l.length ∧ l.length ≤ 60 then (match take 61 l with | some (x, _) => x | none => []) else []), false)
theorem ordOf_ev {l : List Int} : Tells (fun k => impl_ordOf.f k l) (ordv l) := by
  unfold ordv ordOf
  by_cases h1 : (l.length : Int) < 1
  · refine Tells.pos h1 ?_
    rw [if_neg (by omega), if_neg (by omega)]; exact Tells.now _
  · refine Tells.neg h1 ?_
    by_cases h2 : (l.length : Int) > 60
    · refine Tells.pos h2 ?_
      rw [if_neg (by omega), if_neg (by omega)]; exact Tells.now _
    · refine Tells.neg h2 ?_
      refine Tells.bind (takeOrd_ev 61 l (by omega) (by omega)) ?_
      have hc : 1 ≤ l.length ∧ l.length ≤ 60 := by omega
      rw [if_pos hc, if_pos hc]
      cases take 61 l with
      | none => exact Tells.neg (by simp) (Tells.now _)
      | some q =>
        obtain ⟨x, l'⟩ := q
        refine Tells.pos rfl ?_
        cases l' with
        | nil => exact Tells.now _
        | cons a l' => refine Tells.to (Tells.now _) ?_; simp; omega
end Go.Proofs.Ytninfokihgbgpaa.P

namespace Go.Proofs.Ytninfokihgbgpaa.P
open OM Go.RowKit Go.Proofs.YtninfokihgbgpaaW.PrintWords Go.Proofs.YtninfokihgbgpaaW.PrintLast Go.Proofs.YtninfokihgbgpaaW.PrintMore
set_option linter.unusedVariables false

/-! #### lists -/
theorem l1In_eq (a lo hi : Int) : spec_l1In.f a lo hi = some (decide (lo ≤ a ∧ a ≤ hi)) := by
  unfold spec_l1In.f
  split
  · next h => congr 1; by_cases g : a ≤ hi <;> simp [h, g] <;> omega
  · next h => congr 1; simp; omega
/-! #### the rows of ordinals: where they end, their terms -/
theorem span_l : ∀ (r : O) (p s : List Int) (m i : Int), m = i + r.length → 0 ≤ i → m ≤ 20000000000 → (((p ++ (flat r ++ s)).length : Nat) : Int) ≤ 10000000000 → Tells (fun k => spec_l1Span.l0 k (p ++ (flat r ++ s)) (p.length : Int) m i) ((p.length : Int) + (flat r).length) := by
  intro r
  induction r using ind with
  | h0 =>
    intro p s m i h1 h2 hm h3
    refine Tells.step (fun k => by rw [spec_l1Span.l0]) ?_
    refine Tells.neg (by simp at h1; omega) ?_
    refine Tells.to (Tells.now _) ?_
    rw [flat_nil]; simp
  | h1 c e r ihe ihr =>
    intro p s m i h1 h2 hm h3
    have h3' := h3
    rw [flat_cons] at h3' ⊢
    have hre : row e = (e.length : Int) :: flat e := rfl
    simp only [List.length_append, List.length_cons] at h3' h1
    rw [hre] at h3'
    simp only [List.length_append, List.length_cons] at h3'
    have hle := length_le_size e
    have hfe := flat_length e
    have hlr := length_le_size r
    have hfr := flat_length r
    refine Tells.step (fun k => by rw [spec_l1Span.l0]) ?_
    refine Tells.pos (by omega) ?_
    rw [wrap_id (i := (p.length : Int) + 1) (by omega) (by omega), wrap_id (i := i + 1) (by omega) (by omega)]
    have hsp : Tells (fun k => spec_l1Span.f k (p ++ ((c :: (row e ++ flat r)) ++ s)) ((p.length : Int) + 1)) ((p.length : Int) + 1 + (row e).length) := by
      refine Tells.step (fun k => by rw [spec_l1Span.f]) ?_
      refine Tells.pos (by omega) ?_
      refine Tells.pos (by simp [hre]; omega) ?_
      have hsplit : p ++ ((c :: (row e ++ flat r)) ++ s) = (p ++ [c]) ++ ((e.length : Int) :: (flat e ++ (flat r ++ s))) := by rw [hre]; simp
      rw [hsplit, rd_mid (p ++ [c]) _ (e.length : Int) (by simp), wrap_id (by omega) (by omega)]
      have := ihe (p ++ [c] ++ [(e.length : Int)]) (flat r ++ s) (e.length : Int) 0 (by omega) (by omega) (by omega) (by simp; omega)
      rw [show ((p ++ [c] ++ [(e.length : Int)]).length : Int) = (p.length : Int) + 1 + 1 by simp; omega] at this
      rw [snoc (p ++ [c])]
      refine Tells.to this ?_
      rw [hre]; simp only [List.length_cons]; omega
    refine Tells.bind hsp ?_
    have hsplit : p ++ ((c :: (row e ++ flat r)) ++ s) = (p ++ (c :: row e)) ++ (flat r ++ s) := by simp
    rw [hsplit]
    have := ihr (p ++ (c :: row e)) s m (i + 1) (by omega) (by omega) hm (by rw [← hsplit, ← flat_cons]; exact h3)
    rw [show ((p ++ (c :: row e)).length : Int) = (p.length : Int) + 1 + (row e).length by simp; omega] at this
    refine Tells.to this ?_
    simp only [List.length_cons, List.length_append]; omega
theorem span_ev (x : O) (p s : List Int) (h : (((p ++ (row x ++ s)).length : Nat) : Int) ≤ 10000000000) : Tells (fun k => spec_l1Span.f k (p ++ (row x ++ s)) (p.length : Int)) ((p.length : Int) + (row x).length) := by
  have hre : row x = (x.length : Int) :: flat x := rfl
  have h' := h
  rw [hre] at h' ⊢
  simp only [List.length_append, List.length_cons] at h'
  have hle := length_le_size x
  have hfe := flat_length x
  refine Tells.step (fun k => by rw [spec_l1Span.f]) ?_
  refine Tells.pos (by omega) ?_
  refine Tells.pos (by simp; omega) ?_
  rw [show p ++ ((x.length : Int) :: flat x ++ s) = p ++ ((x.length : Int) :: (flat x ++ s)) by simp, rd_mid p _ (x.length : Int) rfl, wrap_id (by omega) (by omega)]
  have := span_l x (p ++ [(x.length : Int)]) s (x.length : Int) 0 (by omega) (by omega) (by omega) (by simp; omega)
  rw [show ((p ++ [(x.length : Int)]).length : Int) = (p.length : Int) + 1 by simp] at this
  rw [snoc p]
  refine Tells.to this ?_
  simp only [List.length_cons]; omega
def cs (x : O) : List Int := x.map (·.f0)
def es (x : O) : List (List Int) := x.map (fun t => row t.f1)
theorem cs_length (x : O) : (cs x).length = x.length := by simp [cs]
theorem es_length (x : O) : (es x).length = x.length := by simp [es]
theorem cs_cons (c : Int) (e r : O) : cs (⟨c, e⟩ :: r) = c :: cs r := rfl
theorem es_cons (c : Int) (e r : O) : es (⟨c, e⟩ :: r) = row e :: es r := rfl
theorem cs_append (x y : O) : cs (x ++ y) = cs x ++ cs y := by simp [cs]
theorem es_append (x y : O) : es (x ++ y) = es x ++ es y := by simp [es]
theorem terms_l : ∀ (r : O) (p : List Int) (A : List Int) (B : List (List Int)), ((p ++ flat r).length : Int) ≤ 10000000000 → (A.length : Int) + r.length ≤ 20000000000 → (B.length : Int) + r.length ≤ 20000000000 →
    Tells (fun k => spec_l1Terms.l0 k (p ++ flat r) A B (p.length : Int)) (A ++ cs r, B ++ es r) := by
  intro r
  induction r with
  | nil =>
    intro p A B h1 h2 h3
    refine Tells.step (fun k => by rw [spec_l1Terms.l0]) ?_
    refine Tells.neg (by rw [flat_nil]; simp) ?_
    refine Tells.to (Tells.now _) ?_
    simp [cs, es]
  | cons t r ih =>
    intro p A B h1 h2 h3
    obtain ⟨c, e⟩ := t
    have h1' := h1
    rw [flat_cons] at h1' ⊢
    simp only [List.length_append, List.length_cons] at h1' h2 h3
    refine Tells.step (fun k => by rw [spec_l1Terms.l0]) ?_
    refine Tells.pos (by simp; omega) ?_
    rw [wrap_id (i := (p.length : Int) + 1) (by omega) (by omega)]
    have hsplit : p ++ (c :: (row e ++ flat r)) = (p ++ [c]) ++ (row e ++ flat r) := by simp
    have hsp : Tells (fun k => spec_l1Span.f k (p ++ (c :: (row e ++ flat r))) ((p.length : Int) + 1)) ((p.length : Int) + 1 + (row e).length) := by
      rw [hsplit]
      have := span_ev e (p ++ [c]) (flat r) (by simp; omega)
      rw [show ((p ++ [c]).length : Int) = (p.length : Int) + 1 by simp] at this
      exact this
    refine Tells.bind hsp ?_
    refine Tells.pos (by omega) ?_
    refine Tells.pos (by omega) ?_
    refine Tells.pos (by omega) ?_
    refine Tells.pos (by omega) ?_
    refine Tells.pos (by simp; omega) ?_
    refine Tells.pos (by omega) ?_
    rw [rd_mid p _ c rfl]
    have hcut : (((p ++ (c :: (row e ++ flat r))).take ((p.length : Int) + 1 + ((row e).length : Int)).toNat).drop ((p.length : Int) + 1).toNat) = row e := by
      rw [show ((p.length : Int) + 1 + ((row e).length : Int)).toNat = (p ++ [c]).length + (row e).length by simp; omega, show ((p.length : Int) + 1).toNat = (p ++ [c]).length by simp <;> omega, hsplit, List.take_length_add_append, List.take_left, List.drop_left]
    rw [hcut, show p ++ (c :: (row e ++ flat r)) = (p ++ (c :: row e)) ++ flat r by simp]
    have := ih (p ++ (c :: row e)) (A ++ [c]) (B ++ [row e]) (by simp; omega) (by simp; omega) (by simp; omega)
    rw [show ((p ++ (c :: row e)).length : Int) = (p.length : Int) + 1 + (row e).length by simp; omega] at this
    refine Tells.to this ?_
    rw [cs_cons, es_cons]; simp
theorem terms_ev {x : O} (h : size x ≤ 10000000000) : Tells (fun k => spec_l1Terms.f k (row x)) (cs x, es x) := by
  have hl := row_length x
  have hz := length_le_size x
  have := terms_l x [(x.length : Int)] [] [] (by show (((row x).length : Nat) : Int) ≤ _; omega) (by simp; omega) (by simp; omega)
  exact this
theorem make_l : ∀ (r : O) (A : List Int) (B : List (List Int)) (acc : List Int), A.length = B.length → (A.length : Int) + r.length ≤ 10000000000 → (acc.length : Int) + (flat r).length ≤ 20000000000 →
    Tells (fun k => spec_l1Make.l0 k (A ++ cs r) (B ++ es r) acc (A.length : Int)) (acc ++ flat r) := by
  intro r
  induction r with
  | nil =>
    intro A B acc h1 h2 h3
    refine Tells.step (fun k => by rw [spec_l1Make.l0]) ?_
    refine Tells.neg (by simp [cs]) ?_
    refine Tells.to (Tells.now _) ?_
    rw [flat_nil, List.append_nil]
  | cons t r ih =>
    intro A B acc h1 h2 h3
    obtain ⟨c, e⟩ := t
    rw [flat_cons] at h3
    simp only [List.length_append, List.length_cons] at h2 h3
    rw [cs_cons, es_cons]
    refine Tells.step (fun k => by rw [spec_l1Make.l0]) ?_
    refine Tells.pos (by simp; omega) ?_
    refine Tells.pos (by omega) ?_
    refine Tells.pos (by omega) ?_
    refine Tells.sbind ?_
    refine Tells.pos (by simp; omega) ?_
    rw [rd_mid A _ c rfl, rdL_mid B _ (row e) (by rw [h1])]
    refine Tells.pos (by simp; omega) ?_
    rw [wrap_id (by omega) (by omega), snoc A, snoc B]
    have := ih (A ++ [c]) (B ++ [row e]) (acc ++ [c] ++ row e) (by simp [h1]) (by simp; omega) (by simp; omega)
    rw [show ((A ++ [c]).length : Int) = (A.length : Int) + 1 by simp] at this
    refine Tells.to this ?_
    rw [flat_cons]; simp
theorem make_ev {x : O} (h : size x ≤ 10000000000) : Tells (fun k => spec_l1Make.f k (cs x) (es x)) (row x) := by
  have hl := flat_length x
  have hz := length_le_size x
  have := make_l x [] [] [((cs x).length : Int)] rfl (by simp; omega) (by simp; omega)
  refine Tells.to this ?_
  rw [cs_length]; rfl
theorem make_ev' {x : O} {A : List Int} {B : List (List Int)} (hA : A = cs x) (hB : B = es x) (h : size x ≤ 10000000000) : Tells (fun k => spec_l1Make.f k A B) (row x) := by subst hA; subst hB; exact make_ev h

/-! #### comparing rows -/
theorem specCompare_l : ∀ (r : O) (p q s : O), p.length = q.length → size (p ++ r) ≤ 500000000 → size (q ++ s) ≤ 500000000 →
    Tells (fun k => spec_l1Compare.l0 k (cs (p ++ r)) (es (p ++ r)) (cs (q ++ s)) (es (q ++ s)) (p.length : Int)) (cmp r s) := by
  intro r
  induction r using ind with
  | h0 =>
    intro p q s hl h1 h2
    refine Tells.step (fun k => by rw [spec_l1Compare.l0]) ?_
    refine Tells.neg (by rw [cs_length]; simp) ?_
    refine Tells.step (fun k => by rw [spec_l1Compare.j1]) ?_
    refine Tells.neg (by simp) ?_
    cases s with
    | nil =>
      refine Tells.neg (by rw [cs_length, cs_length]; simp; omega) ?_
      refine Tells.neg (by rw [cs_length, cs_length]; simp; omega) ?_
      rw [cmp_nn]; exact Tells.now _
    | cons t s =>
      refine Tells.pos (by rw [cs_length, cs_length]; simp; omega) ?_
      rw [cmp_nc]; exact Tells.now _
  | h1 c e r ihe ihr =>
    intro p q s hl h1 h2
    have hp := length_le_size p
    refine Tells.step (fun k => by rw [spec_l1Compare.l0]) ?_
    refine Tells.pos (by rw [cs_length]; simp; omega) ?_
    refine Tells.step (fun k => by rw [spec_l1Compare.j1]) ?_
    cases s with
    | nil =>
      refine Tells.neg (by rw [cs_length]; simp; omega) ?_
      refine Tells.neg (by rw [cs_length, cs_length]; simp; omega) ?_
      refine Tells.pos (by rw [cs_length, cs_length]; simp; omega) ?_
      rw [cmp_cn]; exact Tells.now _
    | cons t s =>
      obtain ⟨d, f⟩ := t
      have z1 := h1
      have z2 := h2
      rw [size_append, size_cons] at z1 z2
      have := size_pos r
      have := size_pos s
      have := size_pos p
      have := size_pos q
      have := size_pos e
      have := size_pos f
      refine Tells.pos (by rw [cs_length]; simp; omega) ?_
      refine Tells.pos (by omega) ?_
      refine Tells.pos (by rw [es_length]; simp; omega) ?_
      refine Tells.pos (by rw [es_length]; simp; omega) ?_
      have he : rd_L3 (es (p ++ ⟨c, e⟩ :: r)) (p.length : Int) = row e := by rw [es_append, es_cons]; exact rdL_mid _ _ _ (by rw [es_length])
      have hf : rd_L3 (es (q ++ ⟨d, f⟩ :: s)) (p.length : Int) = row f := by rw [es_append, es_cons]; exact rdL_mid _ _ _ (by rw [es_length, hl])
      have hc : rd (cs (p ++ ⟨c, e⟩ :: r)) (p.length : Int) = c := by rw [cs_append, cs_cons]; exact rd_mid _ _ _ (by rw [cs_length])
      have hd : rd (cs (q ++ ⟨d, f⟩ :: s)) (p.length : Int) = d := by rw [cs_append, cs_cons]; exact rd_mid _ _ _ (by rw [cs_length, hl])
      rw [he, hf, hc, hd]
      have hef : Tells (fun k => spec_l1Compare.f k (row e) (row f)) (cmp e f) := by
        refine Tells.step (fun k => by rw [spec_l1Compare.f]) ?_
        refine Tells.bind (terms_ev (by omega)) ?_
        refine Tells.bind (terms_ev (by omega)) ?_
        exact ihe [] [] f rfl (by show size e ≤ _; omega) (by show size f ≤ _; omega)
      refine Tells.bind hef ?_
      rw [cmp_cc]
      by_cases z : cmp e f = 0
      · refine Tells.pos z ?_
        rw [if_pos z]
        refine Tells.pos (by rw [cs_length]; simp; omega) ?_
        refine Tells.pos (by rw [cs_length]; simp; omega) ?_
        by_cases a : c = d
        · refine Tells.pos a ?_
          rw [if_neg (by omega), if_neg (by omega), wrap_id (by omega) (by omega), snoc p, snoc q]
          have := ihr (p ++ [⟨c, e⟩]) (q ++ [⟨d, f⟩]) s (by simp [hl]) (by rw [← snoc]; exact h1) (by rw [← snoc]; exact h2)
          rw [show ((p ++ [(⟨c, e⟩ : Tm)]).length : Int) = (p.length : Int) + 1 by simp] at this
          exact this
        · refine Tells.neg a ?_
          by_cases b : c < d
          · refine Tells.pos b ?_
            rw [if_pos b]; exact Tells.now _
          · refine Tells.neg b ?_
            rw [if_neg b, if_pos (by omega)]; exact Tells.now _
      · refine Tells.neg z ?_
        rw [if_neg z]; exact Tells.now _
theorem specCompare_ev {x y : O} (hx : size x ≤ 500000000) (hy : size y ≤ 500000000) : Tells (fun k => spec_l1Compare.f k (row x) (row y)) (cmp x y) := by
  refine Tells.step (fun k => by rw [spec_l1Compare.f]) ?_
  refine Tells.bind (terms_ev (by omega)) ?_
  refine Tells.bind (terms_ev (by omega)) ?_
  exact specCompare_l x [] [] y rfl hx hy
end Go.Proofs.Ytninfokihgbgpaa.P

namespace Go.Proofs.Ytninfokihgbgpaa.P
open OM Go.RowKit Go.Proofs.YtninfokihgbgpaaW.PrintWords Go.Proofs.YtninfokihgbgpaaW.PrintLast Go.Proofs.YtninfokihgbgpaaW.PrintMore
set_option linter.unusedVariables false
/-! #### numbers -/
def num (c : Int) : O := if c = 0 then [] else [⟨c, []⟩]
theorem row_num_zero : row (num 0) = [0] := by unfold num; rw [if_pos rfl, row_nil]
theorem row_num {c : Int} (h : c ≠ 0) : row (num c) = [1, c, 0] := by unfold num; rw [if_neg h]; unfold row; rw [flat_cons, row_nil, flat_nil]; rfl
theorem size_num (c : Int) : size (num c) ≤ 3 := by unfold num; split <;> simp only [size_cons, size_nil] <;> omega
theorem number_eq (c : Int) : impl_number.f c = some (num c) := by unfold impl_number.f num; split <;> rfl
def ofv (a : Int) : List Int := if 0 ≤ a ∧ a ≤ 9999 then row (num a) else []
theorem ofv_length (a : Int) : ((ofv a).length : Int) ≤ 3 := by
  unfold ofv
  split
  · rw [row_length]; exact size_num a
  · simp
theorem specOrdOf_eq (a : Int) : spec_OrdOf.f a = some (ofv a) := by
  unfold spec_OrdOf.f ofv
  rw [l1In_eq]
  show (if decide (0 ≤ a ∧ a ≤ 9999) = true then _ else _) = _
  by_cases h : 0 ≤ a ∧ a ≤ 9999
  · rw [if_pos (decide_eq_true h), if_pos h]
    by_cases z : a = 0
    · subst z; rw [if_pos rfl, row_num_zero]
    · rw [if_neg z, row_num z]
  · rw [if_neg (by simp; omega), if_neg h]
theorem implOrdOf_ev {a : Int} : Tells (fun k => impl_OrdOf.f k a) (ofv a) := by
  have bad : ¬ (0 ≤ a ∧ a ≤ 9999) → Tells (fun k => impl_OrdOf.j0 k a true) (ofv a) := by
    intro h
    refine Tells.step (fun k => by rw [impl_OrdOf.j0]) ?_
    unfold ofv; rw [if_neg h]
    exact Tells.pos rfl (Tells.now _)
  by_cases h1 : a < 0
  · exact Tells.pos h1 (bad (by omega))
  · refine Tells.neg h1 ?_
    by_cases h2 : a > 9999
    · rw [decide_eq_true h2]; exact bad (by omega)
    · rw [decide_eq_false h2]
      refine Tells.step (fun k => by rw [impl_OrdOf.j0]) ?_
      refine Tells.neg (by simp) ?_
      refine Tells.bind (Tells.const (number_eq a)) ?_
      have := size_num a
      unfold ofv; rw [if_pos (by omega)]
      exact Tells.bind (rowOf_ev (by omega)) (Tells.now _)
end Go.Proofs.Ytninfokihgbgpaa.P

namespace Go.Proofs.Ytninfokihgbgpaa.P
open OM Go.RowKit Go.Proofs.YtninfokihgbgpaaW.PrintWords Go.Proofs.YtninfokihgbgpaaW.PrintLast Go.Proofs.YtninfokihgbgpaaW.PrintMore
set_option linter.unusedVariables false

theorem sameInts_l : ∀ (a b p q : List Int), p.length = q.length → a.length = b.length → ((p ++ a).length : Int) ≤ 4000000000000000000 → Tells (fun k => laws_sameInts.l0 k (p ++ a) (q ++ b) (p.length : Int)) (decide (a = b)) := by
  intro a
  induction a with
  | nil =>
    intro b p q h1 h2 h3
    cases b with
    | cons _ _ => simp at h2
    | nil =>
      refine Tells.step (fun k => by rw [laws_sameInts.l0]) ?_
      exact Tells.neg (by simp) (Tells.now _)
  | cons x a ih =>
    intro b p q h1 h2 h3
    cases b with
    | nil => simp at h2
    | cons y b =>
      have h3' := h3
      simp only [List.length_append, List.length_cons] at h3'
      refine Tells.step (fun k => by rw [laws_sameInts.l0]) ?_
      refine Tells.pos (by simp; omega) ?_
      refine Tells.pos (by omega) ?_
      refine Tells.pos (by simp; omega) ?_
      rw [rd_mid p a x rfl, rd_mid q b y (by rw [h1])]
      by_cases h : x = y
      · refine Tells.pos h ?_
        rw [wrap_id (by omega) (by omega), snoc p, snoc q]
        have := ih b (p ++ [x]) (q ++ [y]) (by simp [h1]) (by simpa using h2) (by rw [← snoc]; exact h3)
        rw [show ((p ++ [x]).length : Int) = (p.length : Int) + 1 by simp] at this
        refine Tells.to this ?_
        simp [h]
      · refine Tells.neg h ?_
        refine Tells.to (Tells.now _) ?_
        simp [h]
theorem sameInts_ev {a b : List Int} (h : (a.length : Int) ≤ 4000000000000000000) : Tells (fun k => laws_sameInts.f k a b) (decide (a = b)) := by
  by_cases hl : (a.length : Int) = (b.length : Int)
  · exact Tells.pos hl (sameInts_l a b [] [] rfl (by omega) (by simpa using h))
  · refine Tells.neg hl ?_
    refine Tells.to (Tells.now _) ?_
    symm
    rw [decide_eq_false_iff_not]
    intro h; rw [h] at hl; exact hl rfl
theorem alive_ev : Tells (fun k => laws_alive.f k) true := by
  have h0 : ofv 0 = [0] := by unfold ofv; rw [if_pos (by omega), row_num_zero]
  have h7 : ofv 7 = [1, 7, 0] := by unfold ofv; rw [if_pos (by omega), row_num (by omega)]
  refine Tells.bind (implOrdOf_ev (a := 0)) ?_
  rw [h0]
  refine Tells.pos rfl ?_
  refine Tells.bind (implOrdOf_ev (a := 7)) ?_
  rw [h7]
  exact Tells.now _
end Go.Proofs.Ytninfokihgbgpaa.P

namespace Go.Proofs.Ytninfokihgbgpaa.P
open OM Go.RowKit Go.Proofs.YtninfokihgbgpaaW.PrintWords Go.Proofs.YtninfokihgbgpaaW.PrintLast Go.Proofs.YtninfokihgbgpaaW.PrintMore
set_option linter.unusedVariables false

def endv (tot : Int) : Option (O × List Int) → Int
  | none => -1
  | some (_, l') => tot - l'.length
theorem endv_none (t : Int) : endv t none = -1 := rfl
theorem endv_some (t : Int) (x : O) (l : List Int) : endv t (some (x, l)) = t - l.length := rfl
theorem rd_p (p l : List Int) (m : Int) : rd (p ++ m :: l) (p.length : Int) = m := rd_mid p l m rfl
theorem end_l {n : Nat} (ih : ∀ p l : List Int, l.length < n → (((p ++ l).length : Nat) : Int) ≤ 100000000 → Tells (fun k => spec_l1End.f k (p ++ l) (p.length : Int)) (endv ((p ++ l).length : Int) (take n l))) :
    ∀ (c : Nat) (p l last : List Int) (lo : Option O) (m i : Int), l.length ≤ n → (((p ++ l).length : Nat) : Int) ≤ 100000000 → m = i + c → 0 ≤ i → m ≤ 60 →
      (i = 0 → lo = none) → (0 < i → ∃ f, lo = some f ∧ last = row f ∧ size f ≤ 100000000) →
      Tells (fun k => spec_l1End.l0 k (p ++ l) (p.length : Int) m last i) (endv ((p ++ l).length : Int) (terms (take n) c lo l)) := by
  intro c
  induction c with
  | zero =>
    intro p l last lo m i h1 h2 h3 h4 h5 h6 h7
    refine Tells.step (fun k => by rw [spec_l1End.l0]) ?_
    refine Tells.neg (by omega) ?_
    refine Tells.to (Tells.now _) ?_
    unfold terms; rw [endv_some]; simp <;> omega
  | succ c ihc =>
    intro p l last lo m i h1 h2 h3 h4 h5 h6 h7
    have h2' := h2
    simp only [List.length_append] at h2'
    refine Tells.step (fun k => by rw [spec_l1End.l0]) ?_
    refine Tells.pos (by omega) ?_
    have bad : Tells (fun k => spec_l1End.j2 k (p ++ l) (p.length : Int) m last i true) (-1) := by
      refine Tells.step (fun k => by rw [spec_l1End.j2]) ?_
      exact Tells.pos rfl (Tells.now _)
    cases l with
    | nil =>
      refine Tells.pos (by simp) ?_
      refine Tells.to bad ?_
      unfold terms; rfl
    | cons t l =>
      simp only [List.length_cons] at h1 h2'
      refine Tells.neg (by simp; omega) ?_
      refine Tells.pos (by omega) ?_
      refine Tells.pos (by simp; omega) ?_
      rw [rd_p]
      refine Tells.bind (Tells.const (l1In_eq t 1 9999)) ?_
      rw [terms]
      by_cases ht : 1 ≤ t ∧ t ≤ 9999
      · rw [if_pos ht, decide_eq_true ht]
        refine Tells.step (fun k => by rw [spec_l1End.j2]) ?_
        refine Tells.neg (by simp) ?_
        rw [wrap_id (i := (p.length : Int) + 1) (by omega) (by omega)]
        have hf := ih (p ++ [t]) l (by omega) (by simp; omega)
        rw [← snoc p l t, show ((p ++ [t]).length : Int) = (p.length : Int) + 1 by simp] at hf
        refine Tells.bind hf ?_
        cases hk : take n l with
        | none =>
          rw [endv_none]
          exact Tells.pos (by omega) (Tells.now _)
        | some q =>
          obtain ⟨e, l1⟩ := q
          rw [endv_some]
          simp only
          obtain ⟨a1, a2, a3⟩ := take_good _ _ _ _ hk
          have hlen := take_len hk
          have hre := row_length e
          have hl : (l.length : Int) = (row e).length + l1.length := by rw [a1]; simp
          have hend : (((p ++ t :: l).length : Nat) : Int) - l1.length = (p.length : Int) + 1 + (row e).length := by simp; omega
          rw [hend]
          refine Tells.neg (by omega) ?_
          have hcut : (((p ++ t :: l).take ((p.length : Int) + 1 + ((row e).length : Int)).toNat).drop ((p.length : Int) + 1).toNat) = row e := by
            rw [show ((p.length : Int) + 1 + ((row e).length : Int)).toNat = (p ++ [t]).length + (row e).length by simp; omega, show ((p.length : Int) + 1).toNat = (p ++ [t]).length by simp <;> omega, a1, show p ++ t :: (row e ++ l1) = (p ++ [t]) ++ (row e ++ l1) by simp, List.take_length_add_append, List.take_left, List.drop_left]
          have go : Tells (fun k => spec_l1End.l0 k (p ++ t :: l) ((p.length : Int) + 1 + (row e).length) m (row e) (wrap64 (i + 1)))
              (endv (((p ++ t :: l).length : Nat) : Int) (match terms (take n) c (some e) l1 with | none => none | some (r, l'') => some ((⟨t, e⟩ : Tm) :: r, l''))) := by
            rw [wrap_id (by omega) (by omega)]
            have := ihc (p ++ (t :: row e)) l1 (row e) (some e) m (i + 1) (by omega) (by rw [a1] at h2; simp at h2 ⊢; omega) (by omega) (by omega) h5 (fun h => by omega) (fun _ => ⟨e, rfl, rfl, by omega⟩)
            rw [show (p ++ (t :: row e)) ++ l1 = p ++ t :: l by rw [a1]; simp, show ((p ++ (t :: row e)).length : Int) = (p.length : Int) + 1 + (row e).length by simp; omega] at this
            refine Tells.to this ?_
            cases terms (take n) c (some e) l1 with
            | none => rfl
            | some q => obtain ⟨r, l2⟩ := q; rfl
          by_cases hi : i > 0
          · obtain ⟨f, hlo, hlast, hsf⟩ := h7 hi
            subst hlo; subst hlast
            refine Tells.pos hi ?_
            refine Tells.pos (by omega) ?_
            refine Tells.pos (by omega) ?_
            refine Tells.pos (by simp; omega) ?_
            rw [hcut]
            refine Tells.bind (specCompare_ev (by omega) (by omega)) ?_
            by_cases hc : cmp e f ≥ 0
            · refine Tells.pos hc ?_
              have : late (some f) e = true := by unfold late; simp only [decide_eq_true_eq]; exact hc
              rw [if_pos this]
              exact Tells.now _
            · refine Tells.neg hc ?_
              have : ¬ late (some f) e = true := by unfold late; simp only [decide_eq_true_eq]; exact hc
              rw [if_neg this]
              exact go
          · have hlo := h6 (by omega)
            subst hlo
            refine Tells.neg hi ?_
            refine Tells.pos (by omega) ?_
            refine Tells.pos (by omega) ?_
            refine Tells.pos (by simp; omega) ?_
            rw [hcut]
            have : ¬ late none e = true := by unfold late; simp
            rw [if_neg this]
            exact go
      · rw [if_neg ht, decide_eq_false ht]
        exact bad
theorem end_ev : ∀ (n : Nat) (p l : List Int), l.length < n → (((p ++ l).length : Nat) : Int) ≤ 100000000 → Tells (fun k => spec_l1End.f k (p ++ l) (p.length : Int)) (endv ((p ++ l).length : Int) (take n l)) := by
  intro n
  induction n with
  | zero => intro p l h; omega
  | succ n ih =>
    intro p l h h2
    have h2' := h2
    simp only [List.length_append] at h2'
    have bad : Tells (fun k => spec_l1End.j0 k (p ++ l) (p.length : Int) true) (-1) := by
      refine Tells.step (fun k => by rw [spec_l1End.j0]) ?_
      exact Tells.pos rfl (Tells.now _)
    refine Tells.step (fun k => by rw [spec_l1End.f]) ?_
    cases l with
    | nil =>
      refine Tells.pos (by simp) ?_
      refine Tells.to bad ?_
      unfold take; rfl
    | cons m l =>
      simp only [List.length_cons] at h h2'
      refine Tells.neg (by simp; omega) ?_
      refine Tells.pos (by omega) ?_
      refine Tells.pos (by simp; omega) ?_
      rw [rd_p]
      refine Tells.bind (Tells.const (l1In_eq m 0 60)) ?_
      rw [take]
      by_cases hm : 0 ≤ m ∧ m ≤ 60
      · rw [if_pos hm, decide_eq_true hm]
        refine Tells.step (fun k => by rw [spec_l1End.j0]) ?_
        refine Tells.neg (by simp) ?_
        refine Tells.pos (by omega) ?_
        refine Tells.pos (by simp; omega) ?_
        rw [rd_p, wrap_id (by omega) (by omega)]
        have := end_l ih m.toNat (p ++ [m]) l [] none m 0 (by omega) (by simp; omega) (by omega) (by omega) (by omega) (fun _ => rfl) (fun h => by omega)
        rw [← snoc p l m, show ((p ++ [m]).length : Int) = (p.length : Int) + 1 by simp] at this
        exact this
      · rw [if_neg hm, decide_eq_false hm]
        exact bad
theorem ordValid_ev {l : List Int} (h : (l.length : Int) ≤ 100000000) : Tells (fun k => spec_OrdValid.f k l) (ordOf l).isSome := by
  refine Tells.bind (Tells.const (l1In_eq _ 1 60)) ?_
  unfold ordOf
  by_cases hl : 1 ≤ l.length ∧ l.length ≤ 60
  · rw [if_pos hl]
    refine Tells.pos (decide_eq_true (by omega)) ?_
    refine Tells.bind (end_ev 61 [] l (by omega) (by simpa using h)) ?_
    refine Tells.to (Tells.now _) ?_
    simp only [List.nil_append]
    cases take 61 l with
    | none => rw [endv_none]; simp <;> omega
    | some q =>
      obtain ⟨x, l'⟩ := q
      rw [endv_some]
      cases l' with
      | nil => simp
      | cons a l' => simp; omega
  · rw [if_neg hl]
    refine Tells.neg (by simp; omega) ?_
    exact Tells.now _
theorem row_inj' : ∀ (x y : O) (a b : List Int), row x ++ a = row y ++ b → x = y ∧ a = b := by
  have fl : ∀ (x y : O) (a b : List Int), x.length = y.length → flat x ++ a = flat y ++ b → x = y ∧ a = b := by
    intro x
    induction x using ind with
    | h0 =>
      intro y a b h1 h2
      cases y with
      | nil => exact ⟨rfl, by simpa [flat_nil] using h2⟩
      | cons _ _ => simp at h1
    | h1 c e r ihe ihr =>
      intro y a b h1 h2
      cases y with
      | nil => simp at h1
      | cons t s =>
        obtain ⟨d, f⟩ := t
        rw [flat_cons, flat_cons] at h2
        unfold row at h2
        simp only [List.cons_append, List.append_assoc, List.cons.injEq] at h2
        obtain ⟨h3, h4, h5⟩ := h2
        obtain ⟨h6, h7⟩ := ihe f _ _ (by omega) h5
        obtain ⟨h8, h9⟩ := ihr s _ _ (by simpa using h1) h7
        subst h3; subst h6; subst h8
        exact ⟨rfl, h9⟩
  intro x y a b h
  unfold row at h
  simp only [List.cons_append, List.cons.injEq] at h
  exact fl x y a b (by omega) h.2
theorem ordOf_row' (x : O) : ordOf (row x) = some x ∨ (ordOf (row x) = none ∧ ¬ Vd x) := by
  cases h : ordOf (row x) with
  | none => exact .inr ⟨rfl, fun hv => by rw [ordOf_row hv] at h; cases h⟩
  | some y =>
    obtain ⟨h1, h2⟩ := ordOf_some h
    have := row_inj' x y [] [] (by rw [h1])
    rw [this.1]; exact .inl rfl
end Go.Proofs.Ytninfokihgbgpaa.P

namespace Go.Proofs.Ytninfokihgbgpaa.P
open OM Go.RowKit Go.Proofs.YtninfokihgbgpaaW.PrintWords Go.Proofs.YtninfokihgbgpaaW.PrintLast Go.Proofs.YtninfokihgbgpaaW.PrintMore
set_option linter.unusedVariables false

theorem ordv_some {l : List Int} {x : O} (h : ordOf l = some x) : ordv l = (x, true) := by unfold ordv; rw [h]
theorem ordv_none {l : List Int} (h : ordOf l = none) : (ordv l).2 = false := by unfold ordv; rw [h]
theorem valid_ev {l : List Int} {x : O} (h : ordOf l = some x) : Tells (fun k => spec_OrdValid.f k l) true := by
  have h1 := ordOf_some h
  have h2 := row_length x
  have := @ordValid_ev l (by rw [h1.1, h2]; have := h1.2.2.2; omega)
  rw [h] at this; exact this
theorem invalid_ev {l : List Int} (hl : (l.length : Int) ≤ 100000000) (h : ordOf l = none) : Tells (fun k => spec_OrdValid.f k l) false := by
  have := @ordValid_ev l hl
  rw [h] at this; exact this
theorem ord_ev {l : List Int} {x : O} (h : ordOf l = some x) : Tells (fun k => impl_ordOf.f k l) (x, true) := by
  have := @ordOf_ev l
  rw [ordv_some h] at this; exact this
theorem es_zero (c : Int) (e r : O) : rd_L3 (es (⟨c, e⟩ :: r)) 0 = row e := rfl
theorem cs_zero (c : Int) (e r : O) : rd (cs (⟨c, e⟩ :: r)) 0 = c := rfl
theorem rdT_zero (t : Tm) (r : O) : rd_T56 (t :: r) 0 = t := rfl
theorem row_one {x : O} : ((row x).length : Int) = 1 ↔ x = [] := by
  rw [row_length]
  cases x with
  | nil => rw [size_nil]; simp
  | cons t r =>
    obtain ⟨c, e⟩ := t
    rw [size_cons]
    have := size_pos e
    have := size_pos r
    constructor
    · intro h; omega
    · intro h; cases h
/-- the reference's check of an ordinal's row -/
theorem validRow_ev {x : O} (hx : NF x) (hz : size x ≤ 100000000) : Tells (fun k => spec_OrdValid.f k (row x)) (decide (size x ≤ 60 ∧ most x ≤ 9999)) := by
  have hl := row_length x
  have := @ordValid_ev (row x) (by omega)
  refine Tells.to this ?_
  by_cases h : size x ≤ 60 ∧ most x ≤ 9999
  · rw [ordOf_row ⟨hx, h.2, h.1⟩, decide_eq_true h]; rfl
  · rcases ordOf_row' x with g | ⟨g, _⟩
    · have := (ordOf_some g).2
      exact absurd ⟨this.2.2, this.2.1⟩ h
    · rw [g, decide_eq_false h]; rfl
theorem toldv_length (x : O) : ((toldv x).1.length : Int) ≤ 60 := by
  unfold toldv
  split
  · show ((row x).length : Int) ≤ 60
    rw [row_length]; omega
  · simp
theorem toldv_true {x : O} (h : size x ≤ 60 ∧ most x ≤ 9999) : toldv x = (row x, true) := by unfold toldv; rw [if_pos h]
theorem toldv_false {x : O} (h : ¬ (size x ≤ 60 ∧ most x ≤ 9999)) : toldv x = ([], false) := by unfold toldv; rw [if_neg h]
end Go.Proofs.Ytninfokihgbgpaa.P

namespace Go.Proofs.Ytninfokihgbgpaa.P
open OM Go.RowKit Go.Proofs.YtninfokihgbgpaaW.PrintWords Go.Proofs.YtninfokihgbgpaaW.PrintLast Go.Proofs.YtninfokihgbgpaaW.PrintMore
set_option linter.unusedVariables false

/-! #### valid -/
theorem implValid_ev {l : List Int} : Tells (fun k => impl_OrdValid.f k l) (ordOf l).isSome := by
  refine Tells.bind ordOf_ev ?_
  refine Tells.to (Tells.now _) ?_
  unfold ordv
  cases ordOf l <;> rfl

/-! #### compared -/
def compv (a b : List Int) : Int := match ordOf a, ordOf b with
  | some x, some y => cmp x y
  | _, _ => -2
theorem specOrdCompare_ev {a b : List Int} (ha : (a.length : Int) ≤ 100000000) (hb : (b.length : Int) ≤ 100000000) : Tells (fun k => spec_OrdCompare.f k a b) (compv a b) := by
  unfold compv
  cases h : ordOf a with
  | none =>
    refine Tells.bind (invalid_ev ha h) ?_
    exact Tells.neg (by simp) (Tells.now _)
  | some x =>
    refine Tells.bind (valid_ev h) ?_
    refine Tells.pos rfl ?_
    cases g : ordOf b with
    | none =>
      refine Tells.bind (invalid_ev hb g) ?_
      exact Tells.neg (by simp) (Tells.now _)
    | some y =>
      refine Tells.bind (valid_ev g) ?_
      refine Tells.pos rfl ?_
      obtain ⟨h1, h2⟩ := ordOf_some h
      obtain ⟨g1, g2⟩ := ordOf_some g
      rw [h1, g1]
      have := h2.size
      have := g2.size
      exact Tells.bind (specCompare_ev (by omega) (by omega)) (Tells.now _)
theorem implOrdCompare_ev {a b : List Int} : Tells (fun k => impl_OrdCompare.f k a b) (compv a b) := by
  refine Tells.bind ordOf_ev ?_
  refine Tells.bind ordOf_ev ?_
  unfold compv
  cases h : ordOf a with
  | none => exact Tells.neg (by rw [ordv_none h]; simp) (Tells.now _)
  | some x =>
    rw [ordv_some h]
    refine Tells.pos rfl ?_
    cases g : ordOf b with
    | none => exact Tells.neg (by rw [ordv_none g]; simp) (Tells.now _)
    | some y =>
      rw [ordv_some g]
      refine Tells.pos rfl ?_
      have := (ordOf_some h).2.size
      have := (ordOf_some g).2.size
      exact Tells.bind (compare_ev (by show size x ≤ _; omega) (by show size y ≤ _; omega)) (Tells.now _)

/-! #### numbers -/
def numOf : O → Int
  | [] => 0
  | [⟨c, e⟩] => if e.isEmpty then c else -1
  | _ :: _ :: _ => -1
def numv (a : List Int) : Int := match ordOf a with
  | some x => numOf x
  | none => -1
theorem specOrdNumber_ev {a : List Int} (ha : (a.length : Int) ≤ 100000000) : Tells (fun k => spec_OrdNumber.f k a) (numv a) := by
  unfold numv
  cases h : ordOf a with
  | none =>
    refine Tells.bind (invalid_ev ha h) ?_
    exact Tells.neg (by simp) (Tells.now _)
  | some x =>
    refine Tells.bind (valid_ev h) ?_
    refine Tells.pos rfl ?_
    obtain ⟨h1, h2⟩ := ordOf_some h
    have := h2.size
    rw [h1]
    refine Tells.bind (terms_ev (by omega)) ?_
    cases x with
    | nil => exact Tells.pos rfl (Tells.now _)
    | cons t r =>
      obtain ⟨c, e⟩ := t
      refine Tells.neg (by rw [cs_length]; simp; omega) ?_
      cases r with
      | cons u s => exact Tells.neg (by rw [cs_length]; simp; omega) (Tells.now _)
      | nil =>
        refine Tells.pos (by rw [cs_length]; simp) ?_
        refine Tells.pos (by rw [es_length]; simp) ?_
        rw [es_zero]
        cases e with
        | nil =>
          refine Tells.pos (row_one.2 rfl) ?_
          refine Tells.pos (by rw [cs_length]; simp) ?_
          exact Tells.now _
        | cons u s =>
          refine Tells.neg (fun hh => by cases row_one.1 hh) ?_
          exact Tells.now _
theorem implOrdNumber_ev {a : List Int} : Tells (fun k => impl_OrdNumber.f k a) (numv a) := by
  refine Tells.bind ordOf_ev ?_
  unfold numv
  cases h : ordOf a with
  | none => exact Tells.neg (by rw [ordv_none h]; simp) (Tells.now _)
  | some x =>
    rw [ordv_some h]
    refine Tells.pos rfl ?_
    cases x with
    | nil => exact Tells.pos rfl (Tells.now _)
    | cons t r =>
      obtain ⟨c, e⟩ := t
      refine Tells.neg (by simp; omega) ?_
      cases r with
      | cons u s => exact Tells.neg (by simp; omega) (Tells.now _)
      | nil =>
        refine Tells.pos (by simp) ?_
        refine Tells.pos (by simp) ?_
        rw [rdT_zero]
        cases e with
        | nil => exact Tells.pos rfl (Tells.now _)
        | cons u s => exact Tells.neg (by simp; omega) (Tells.now _)

/-! #### the greatest number -/
def mostv (a : List Int) : Int := match ordOf a with
  | some x => most x
  | none => -1
theorem specMost_l : ∀ (r p : O) (m : Int), Vd (p ++ r) → 0 ≤ m → Tells (fun k => spec_OrdMost.l0 k (cs (p ++ r)) (es (p ++ r)) m (p.length : Int)) (max m (most r)) := by
  intro r
  induction r using ind with
  | h0 =>
    intro p m h1 h2
    refine Tells.step (fun k => by rw [spec_OrdMost.l0]) ?_
    refine Tells.neg (by rw [cs_length]; simp) ?_
    refine Tells.to (Tells.now _) ?_
    rw [most_nil]; omega
  | h1 c e r ihe ihr =>
    intro p m h1 h2
    have hsz := h1.size
    have hp := length_le_size (p ++ ⟨c, e⟩ :: r)
    have hp' : (p.length : Int) ≤ 60 := by simp at hp; omega
    have hv : Vd e := by
      obtain ⟨g1, g2, g3⟩ := h1
      have : NF e ∧ most e ≤ most (p ++ ⟨c, e⟩ :: r) := by
        clear ihe ihr hp hp' hsz g2 g3 h2
        induction p with
        | nil =>
          have := NF_cons.1 g1
          show NF e ∧ most e ≤ most (⟨c, e⟩ :: r)
          rw [most_cons]; exact ⟨this.2.1, by omega⟩
        | cons t p ih =>
          obtain ⟨d, f⟩ := t
          have := ih (NF_cons.1 g1).2.2.1
          show NF e ∧ most e ≤ most (⟨d, f⟩ :: (p ++ ⟨c, e⟩ :: r))
          rw [most_cons]; exact ⟨this.1, by omega⟩
      refine ⟨this.1, by omega, ?_⟩
      rw [size_append, size_cons] at g3
      have := size_pos p
      have := size_pos r
      omega
    refine Tells.step (fun k => by rw [spec_OrdMost.l0]) ?_
    refine Tells.pos (by rw [cs_length]; simp; omega) ?_
    refine Tells.pos (by omega) ?_
    refine Tells.pos (by rw [es_length]; simp; omega) ?_
    have he : rd_L3 (es (p ++ ⟨c, e⟩ :: r)) (p.length : Int) = row e := by rw [es_append, es_cons]; exact rdL_mid _ _ _ (by rw [es_length])
    have hc : rd (cs (p ++ ⟨c, e⟩ :: r)) (p.length : Int) = c := by rw [cs_append, cs_cons]; exact rd_mid _ _ _ (by rw [cs_length])
    rw [he, hc]
    have hf : Tells (fun k => spec_OrdMost.f k (row e)) (most e) := by
      refine Tells.step (fun k => by rw [spec_OrdMost.f]) ?_
      refine Tells.bind (valid_ev (ordOf_row hv)) ?_
      refine Tells.pos rfl ?_
      have := hv.size
      refine Tells.bind (terms_ev (by omega)) ?_
      have := ihe [] 0 hv (by omega)
      exact Tells.to this (by have := most_pos e; omega)
    refine Tells.bind hf ?_
    rw [mx_max, mx_max, wrap_id (by omega) (by omega), snoc p]
    have := ihr (p ++ [⟨c, e⟩]) (max m (max c (most e))) (by rw [← snoc]; exact h1) (by omega)
    rw [show ((p ++ [(⟨c, e⟩ : Tm)]).length : Int) = (p.length : Int) + 1 by simp] at this
    refine Tells.to this ?_
    rw [most_cons]; omega
theorem specOrdMost_ev {a : List Int} (ha : (a.length : Int) ≤ 100000000) : Tells (fun k => spec_OrdMost.f k a) (mostv a) := by
  unfold mostv
  refine Tells.step (fun k => by rw [spec_OrdMost.f]) ?_
  cases h : ordOf a with
  | none =>
    refine Tells.bind (invalid_ev ha h) ?_
    exact Tells.neg (by simp) (Tells.now _)
  | some x =>
    refine Tells.bind (valid_ev h) ?_
    refine Tells.pos rfl ?_
    obtain ⟨h1, h2⟩ := ordOf_some h
    have := h2.size
    rw [h1]
    refine Tells.bind (terms_ev (by omega)) ?_
    exact Tells.to (specMost_l x [] 0 h2 (by omega)) (by have := most_pos x; show _ = most x; omega)
theorem implOrdMost_ev {a : List Int} : Tells (fun k => impl_OrdMost.f k a) (mostv a) := by
  refine Tells.bind ordOf_ev ?_
  unfold mostv
  cases h : ordOf a with
  | none => exact Tells.neg (by rw [ordv_none h]; simp) (Tells.now _)
  | some x =>
    rw [ordv_some h]
    refine Tells.pos rfl ?_
    have := (ordOf_some h).2.size
    exact Tells.bind (most_ev (by show size x ≤ _; omega)) (Tells.now _)

/-! #### how deep -/
def depth : O → Int
  | [] => 0
  | ⟨_, e⟩ :: _ => depth e + 1
theorem depth_nil : depth [] = 0 := by unfold depth; rfl
theorem depth_cons (c : Int) (e r : O) : depth (⟨c, e⟩ :: r) = depth e + 1 := by rw [depth]
def depthv (a : List Int) : Int := match ordOf a with
  | some x => depth x
  | none => -1
theorem depth_pos (x : O) : 0 ≤ depth x := by
  induction x using ind with
  | h0 => rw [depth_nil]; omega
  | h1 c e r ihe ihr => rw [depth_cons]; omega
theorem specDepth_l : ∀ (x : O) (n : Int), size x ≤ 1000 → 0 ≤ n → n + size x ≤ 2000 → Tells (fun k => spec_OrdDepth.l0 k (row x) n) (n + depth x) := by
  intro x
  induction x using ind with
  | h0 =>
    intro n h1 h2 h3
    refine Tells.step (fun k => by rw [spec_OrdDepth.l0]) ?_
    refine Tells.neg (by rw [row_length, size_nil]; omega) ?_
    refine Tells.to (Tells.now _) ?_
    rw [depth_nil]; omega
  | h1 c e r ihe ihr =>
    intro n h1 h2 h3
    have h1' := h1
    rw [size_cons] at h1' h3
    have := size_pos e
    have := size_pos r
    refine Tells.step (fun k => by rw [spec_OrdDepth.l0]) ?_
    refine Tells.pos (by rw [row_length, size_cons]; omega) ?_
    refine Tells.bind (terms_ev (by omega)) ?_
    refine Tells.pos (by rw [es_length]; simp <;> omega) ?_
    rw [es_zero, wrap_id (by omega) (by omega)]
    refine Tells.to (ihe (n + 1) (by omega) (by omega) (by omega)) ?_
    rw [depth_cons]; omega
theorem implDepth_l : ∀ (x : O) (n : Int), size x ≤ 1000 → 0 ≤ n → n + size x ≤ 2000 → Tells (fun k => impl_OrdDepth.l0 k x n) (n + depth x) := by
  intro x
  induction x using ind with
  | h0 =>
    intro n h1 h2 h3
    refine Tells.step (fun k => by rw [impl_OrdDepth.l0]) ?_
    refine Tells.neg (by simp) ?_
    refine Tells.to (Tells.now _) ?_
    rw [depth_nil]; omega
  | h1 c e r ihe ihr =>
    intro n h1 h2 h3
    rw [size_cons] at h1 h3
    have := size_pos e
    have := size_pos r
    refine Tells.step (fun k => by rw [impl_OrdDepth.l0]) ?_
    refine Tells.pos (by simp <;> omega) ?_
    refine Tells.pos (by simp <;> omega) ?_
    rw [rdT_zero, wrap_id (by omega) (by omega)]
    refine Tells.to (ihe (n + 1) (by omega) (by omega) (by omega)) ?_
    rw [depth_cons]; omega
theorem specOrdDepth_ev {a : List Int} (ha : (a.length : Int) ≤ 100000000) : Tells (fun k => spec_OrdDepth.f k a) (depthv a) := by
  unfold depthv
  cases h : ordOf a with
  | none =>
    refine Tells.bind (invalid_ev ha h) ?_
    exact Tells.neg (by simp) (Tells.now _)
  | some x =>
    refine Tells.bind (valid_ev h) ?_
    refine Tells.pos rfl ?_
    obtain ⟨h1, h2⟩ := ordOf_some h
    have := h2.size
    rw [h1]
    exact Tells.to (specDepth_l x 0 (by omega) (by omega) (by omega)) (by show _ = depth x; omega)
theorem implOrdDepth_ev {a : List Int} : Tells (fun k => impl_OrdDepth.f k a) (depthv a) := by
  refine Tells.bind ordOf_ev ?_
  unfold depthv
  cases h : ordOf a with
  | none => exact Tells.neg (by rw [ordv_none h]; simp) (Tells.now _)
  | some x =>
    rw [ordv_some h]
    refine Tells.pos rfl ?_
    have := (ordOf_some h).2.size
    exact Tells.to (implDepth_l x 0 (by omega) (by omega) (by omega)) (by show _ = depth x; omega)

end Go.Proofs.Ytninfokihgbgpaa.P

namespace Go.Proofs.Ytninfokihgbgpaa.P
open OM Go.RowKit Go.Proofs.YtninfokihgbgpaaW.PrintWords Go.Proofs.YtninfokihgbgpaaW.PrintLast Go.Proofs.YtninfokihgbgpaaW.PrintMore
set_option linter.unusedVariables false

theorem rdT_last (p : O) (t : Tm) (h : size (p ++ [t]) ≤ 10000000000) : wrap64 (((p ++ [t]).length : Int) - 1) = (p.length : Int) ∧ rd_T56 (p ++ [t]) (p.length : Int) = t := by
  have := length_le_size (p ++ [t])
  simp only [List.length_append, List.length_singleton] at this
  refine ⟨?_, rdT_mid p [] t rfl⟩
  rw [wrap_id (by simp <;> omega) (by simp <;> omega)]
  simp <;> omega
theorem kind_snoc (p : O) (c : Int) (e : O) : kind (p ++ [⟨c, e⟩]) = if e = [] then 1 else 2 := by
  rw [kind_append, kind_s]
  cases e <;> simp
theorem implKind_eq {x : O} (h : size x ≤ 10000000000) : impl_kind.f x = some (kind x) := by
  unfold impl_kind.f
  rcases List.eq_nil_or_concat x with h' | ⟨p, t, h'⟩
  · subst h'; rw [kind_nil]; rfl
  · rw [List.concat_eq_append] at h'
    subst h'
    obtain ⟨c, e⟩ := t
    obtain ⟨h1, h2⟩ := rdT_last p ⟨c, e⟩ h
    rw [h1, h2, if_neg (by simp <;> omega), if_pos (by omega), if_pos (by simp <;> omega), kind_snoc]
    cases e with
    | nil => rfl
    | cons t r => rw [if_neg (by simp <;> omega), if_neg (by simp)]
theorem rdL_last (p : O) (c : Int) (e : O) : rd_L3 (es (p ++ [⟨c, e⟩])) (p.length : Int) = row e := by
  rw [es_append, es_cons]; exact rdL_mid _ _ _ (by rw [es_length])
theorem rdc_last (p : O) (c : Int) (e : O) : rd (cs (p ++ [⟨c, e⟩])) (p.length : Int) = c := by
  rw [cs_append, cs_cons]; exact rd_mid _ _ _ (by rw [cs_length])
theorem specKind_ev {l : List Int} {x : O} (h : ordOf l = some x) : Tells (fun k => spec_OrdKind.f k l) (kind x) := by
  obtain ⟨h1, h2⟩ := ordOf_some h
  have := h2.size
  refine Tells.bind (valid_ev h) ?_
  refine Tells.pos rfl ?_
  rw [h1]
  refine Tells.bind (terms_ev (by omega)) ?_
  rcases List.eq_nil_or_concat x with h' | ⟨p, t, h'⟩
  · subst h'
    refine Tells.pos rfl ?_
    rw [kind_nil]; exact Tells.now _
  · rw [List.concat_eq_append] at h'
    subst h'
    obtain ⟨c, e⟩ := t
    have hl := length_le_size (p ++ [⟨c, e⟩])
    have hw : wrap64 (((es (p ++ [⟨c, e⟩])).length : Int) - 1) = (p.length : Int) := by
      rw [es_length, wrap_id (by omega) (by omega)]; simp <;> omega
    rw [hw, rdL_last]
    refine Tells.neg (by rw [es_length]; simp <;> omega) ?_
    refine Tells.pos (by omega) ?_
    refine Tells.pos (by rw [es_length]; simp <;> omega) ?_
    rw [kind_snoc]
    by_cases he : e = []
    · rw [if_pos he]
      exact Tells.pos (row_one.2 he) (Tells.now _)
    · rw [if_neg he]
      exact Tells.neg (fun h => he (row_one.1 h)) (Tells.now _)
def kindv (a : List Int) : Int := match ordOf a with
  | some x => kind x
  | none => -1
theorem kindv_some {l : List Int} {x : O} (h : ordOf l = some x) : kindv l = kind x := by unfold kindv; rw [h]
theorem kindv_none {l : List Int} (h : ordOf l = none) : kindv l = -1 := by unfold kindv; rw [h]
theorem specOrdKind_ev {a : List Int} (ha : (a.length : Int) ≤ 100000000) : Tells (fun k => spec_OrdKind.f k a) (kindv a) := by
  cases h : ordOf a with
  | none =>
    rw [kindv_none h]
    refine Tells.bind (invalid_ev ha h) ?_
    exact Tells.neg (by simp) (Tells.now _)
  | some x => rw [kindv_some h]; exact specKind_ev h
theorem implOrdKind_ev {a : List Int} : Tells (fun k => impl_OrdKind.f k a) (kindv a) := by
  refine Tells.bind ordOf_ev ?_
  cases h : ordOf a with
  | none => rw [kindv_none h]; exact Tells.neg (by rw [ordv_none h]; simp) (Tells.now _)
  | some x =>
    rw [ordv_some h, kindv_some h]
    refine Tells.pos rfl ?_
    have := (ordOf_some h).2.size
    exact Tells.bind (Tells.const (implKind_eq (by show size x ≤ _; omega))) (Tells.now _)
end Go.Proofs.Ytninfokihgbgpaa.P

namespace Go.Proofs.Ytninfokihgbgpaa.P
open OM Go.RowKit Go.Proofs.YtninfokihgbgpaaW.PrintWords Go.Proofs.YtninfokihgbgpaaW.PrintLast Go.Proofs.YtninfokihgbgpaaW.PrintMore
set_option linter.unusedVariables false

/-- what is left has lesser exponents: nothing more is taken -/
theorem addB_l {d0 : Int} {f s : O} (hf : size f ≤ 1000000000) (hs : (s.length : Int) ≤ 1000000000) : ∀ (r p acc : O) (d : Int), NF r → below f r → size (p ++ r) ≤ 1000000000 → (acc.length : Int) ≤ 1000000000 →
    Tells (fun k => impl_add.l0 k (⟨d0, f⟩ :: s) acc (p ++ r) ((p ++ r).length : Int) (p.length : Int) d f) (acc ++ ⟨d, f⟩ :: s) := by
  intro r
  induction r with
  | nil =>
    intro p acc d h1 h2 h3 h4
    refine Tells.step (fun k => by rw [impl_add.l0]) ?_
    refine Tells.neg (by simp) ?_
    refine Tells.pos (by omega) ?_
    refine Tells.sbind ?_
    refine Tells.pos (by simp <;> omega) ?_
    refine Tells.sbind ?_
    refine Tells.pos (by simp <;> omega) ?_
    refine Tells.to (Tells.now _) ?_
    simp
  | cons t r ih =>
    intro p acc d h1 h2 h3 h4
    obtain ⟨c, e⟩ := t
    obtain ⟨g1, g2, g3, g4⟩ := NF_cons.1 h1
    have hlt : Lt e f := h2
    have hp := length_le_size p
    have z := h3
    rw [size_append, size_cons] at z
    have := size_pos r
    have := size_pos p
    have := size_pos e
    refine Tells.step (fun k => by rw [impl_add.l0]) ?_
    refine Tells.pos (by simp <;> omega) ?_
    refine Tells.pos (by omega) ?_
    refine Tells.pos (by simp <;> omega) ?_
    rw [rdT_mid p r ⟨c, e⟩ rfl]
    refine Tells.bind (compare_ev (by show size e ≤ _; omega) (by omega)) ?_
    rw [show cmp (Tm.mk c e).f1 f = -1 from hlt]
    refine Tells.neg (by omega) ?_
    refine Tells.neg (by omega) ?_
    rw [wrap_id (by omega) (by omega), snoc p]
    have := ih (p ++ [⟨c, e⟩]) acc d g3 (below.mono hlt g4) (by rw [← snoc]; exact h3) h4
    rw [show ((p ++ [(⟨c, e⟩ : Tm)]).length : Int) = (p.length : Int) + 1 by simp] at this
    exact this
theorem addA_l {d : Int} {f s : O} (hf : size f ≤ 1000000000) (hs : (s.length : Int) ≤ 1000000000) (hd : 0 ≤ d ∧ d ≤ 1000000000000000000) : ∀ (r p acc : O), NF r → most r ≤ 1000000000000000000 → size (p ++ r) ≤ 1000000000 → (acc.length : Int) + r.length ≤ 1000000000 →
    Tells (fun k => impl_add.l0 k (⟨d, f⟩ :: s) acc (p ++ r) ((p ++ r).length : Int) (p.length : Int) d f) (acc ++ add r (⟨d, f⟩ :: s)) := by
  intro r
  induction r with
  | nil =>
    intro p acc h1 h2 h3 h4
    rw [nil_add]
    exact addB_l hf hs [] p acc d h1 trivial h3 (by simp at h4; omega)
  | cons t r ih =>
    intro p acc h1 h2 h3 h4
    obtain ⟨c, e⟩ := t
    obtain ⟨g1, g2, g3, g4⟩ := NF_cons.1 h1
    have h2' := h2
    rw [most_cons] at h2'
    have hp := length_le_size p
    have z := h3
    rw [size_append, size_cons] at z
    have := size_pos r
    have := size_pos p
    have := size_pos e
    simp only [List.length_cons] at h4
    refine Tells.step (fun k => by rw [impl_add.l0]) ?_
    refine Tells.pos (by simp <;> omega) ?_
    refine Tells.pos (by omega) ?_
    refine Tells.pos (by simp <;> omega) ?_
    rw [rdT_mid p r ⟨c, e⟩ rfl]
    refine Tells.bind (compare_ev (by show size e ≤ _; omega) (by omega)) ?_
    have hl : ((p ++ [(⟨c, e⟩ : Tm)]).length : Int) = (p.length : Int) + 1 := by simp
    rcases cmp_range e f with hc | hc | hc
    · rw [show cmp (Tm.mk c e).f1 f = -1 from hc]
      refine Tells.neg (by omega) ?_
      refine Tells.neg (by omega) ?_
      rw [wrap_id (by omega) (by omega), snoc p, add_lt hc]
      have := addB_l (d0 := d) hf hs r (p ++ [⟨c, e⟩]) acc d g3 (below.mono hc g4) (by rw [← snoc]; exact h3) (by omega)
      rw [hl] at this
      exact this
    · rw [show cmp (Tm.mk c e).f1 f = 0 from hc]
      refine Tells.neg (by omega) ?_
      refine Tells.pos rfl ?_
      have he := cmp_eq hc
      subst he
      rw [wrap_id (i := (p.length : Int) + 1) (by omega) (by omega), wrap_id (by show _ ≤ d + c; omega) (by show d + c ≤ _; omega), snoc p, add_eq]
      have := addB_l (d0 := d) hf hs r (p ++ [⟨c, e⟩]) acc (d + c) g3 g4 (by rw [← snoc]; exact h3) (by omega)
      rw [hl, Int.add_comm d c] at this
      rw [Int.add_comm c d]
      rw [Int.add_comm c d] at this
      exact this
    · rw [show cmp (Tm.mk c e).f1 f = 1 from hc]
      refine Tells.pos (by omega) ?_
      refine Tells.pos (by omega) ?_
      refine Tells.sbind ?_
      refine Tells.neg (by omega) ?_
      rw [wrap_id (by omega) (by omega), snoc p, add_gt (gt_lt hc)]
      have := ih (p ++ [⟨c, e⟩]) (acc ++ [⟨c, e⟩]) g3 (by omega) (by rw [← snoc]; exact h3) (by simp <;> omega)
      rw [hl] at this
      refine Tells.to this ?_
      simp
theorem add_ev {x y : O} (hx : NF x) (mx : most x ≤ 1000000000000000000) (my : most y ≤ 1000000000000000000) (zx : size x ≤ 1000000000) (zy : size y ≤ 1000000000) (hy : NF y) : Tells (fun k => impl_add.f k x y) (add x y) := by
  cases y with
  | nil => rw [add_nil]; exact Tells.pos rfl (Tells.now _)
  | cons t s =>
    obtain ⟨d, f⟩ := t
    have hl := length_le_size x
    have hs := length_le_size s
    rw [size_cons] at zy
    rw [most_cons] at my
    have := size_pos f
    have := size_pos s
    have := (NF_cons.1 hy).1
    refine Tells.neg (by simp <;> omega) ?_
    refine Tells.pos (by simp <;> omega) ?_
    exact addA_l (by omega) (by omega) ⟨by omega, by omega⟩ x [] [] hx mx zx (by simp <;> omega)
theorem size_add (x y : O) : size (add x y) ≤ size x + size y := by
  induction x with
  | nil => rw [nil_add, size_nil]; omega
  | cons t r ih =>
    cases y with
    | nil => rw [add_nil, size_nil]; omega
    | cons u s =>
      obtain ⟨c, e⟩ := t
      obtain ⟨d, f⟩ := u
      have := size_pos r
      have := size_pos e
      rcases cmp_range e f with hc | hc | hc
      · rw [add_lt hc, size_cons, size_cons]; omega
      · have he := cmp_eq hc
        subst he
        rw [add_eq, size_cons, size_cons, size_cons]; omega
      · rw [add_gt (gt_lt hc), size_cons, size_cons c]; omega
end Go.Proofs.Ytninfokihgbgpaa.P

namespace Go.Proofs.Ytninfokihgbgpaa.P
open OM Go.RowKit Go.Proofs.YtninfokihgbgpaaW.PrintWords Go.Proofs.YtninfokihgbgpaaW.PrintLast Go.Proofs.YtninfokihgbgpaaW.PrintMore
set_option linter.unusedVariables false

def nextv (a : List Int) : List Int × Bool := match ordOf a with
  | some x => toldv (add x one)
  | none => ([], false)
theorem nextv_some {l : List Int} {x : O} (h : ordOf l = some x) : nextv l = toldv (add x one) := by unfold nextv; rw [h]
theorem nextv_none {l : List Int} (h : ordOf l = none) : nextv l = ([], false) := by unfold nextv; rw [h]
theorem nextv_length (a : List Int) : ((nextv a).1.length : Int) ≤ 60 := by
  cases h : ordOf a with
  | none => rw [nextv_none h]; simp
  | some x => rw [nextv_some h]; exact toldv_length _
theorem size_one : size one = 3 := by rw [size_cons, size_nil]; rfl
theorem most_one : most one = 1 := by rw [most_cons, most_nil]; rfl
theorem next_j0 {y : O} {A : List Int} {B : List (List Int)} (hA : A = cs y) (hB : B = es y) (hy : NF y) (hz : size y ≤ 1000000) : Tells (fun k => spec_OrdNext.j0 k A B) (toldv y) := by
  refine Tells.step (fun k => by rw [spec_OrdNext.j0]) ?_
  refine Tells.bind (make_ev' hA hB (by omega)) ?_
  refine Tells.bind (validRow_ev hy (by omega)) ?_
  by_cases g : size y ≤ 60 ∧ most y ≤ 9999
  · rw [toldv_true g]
    exact Tells.pos (decide_eq_true g) (Tells.now _)
  · rw [toldv_false g]
    exact Tells.neg (by rw [decide_eq_false g]; simp) (Tells.now _)
theorem set_last (p : O) (c d : Int) (e : O) : (cs (p ++ [⟨c, e⟩])).set p.length d = cs (p ++ [⟨d, e⟩]) := by
  rw [cs_append, cs_append, ← cs_length p, List.set_append_right _ _ (Nat.le_refl _)]; simp [cs]
theorem es_last (p : O) (c d : Int) (e : O) : es (p ++ [⟨c, e⟩]) = es (p ++ [⟨d, e⟩]) := by rw [es_append, es_append]; rfl
theorem specOrdNext_ev {a : List Int} (ha : (a.length : Int) ≤ 10000000) : Tells (fun k => spec_OrdNext.f k a) (nextv a) := by
  cases h : ordOf a with
  | none =>
    rw [nextv_none h]
    refine Tells.bind (invalid_ev (by omega) h) ?_
    exact Tells.neg (by simp) (Tells.now _)
  | some x =>
    rw [nextv_some h]
    refine Tells.bind (valid_ev h) ?_
    refine Tells.pos rfl ?_
    obtain ⟨h1, h2⟩ := ordOf_some h
    have hz := h2.size
    have hn := size_add x one
    rw [size_one] at hn
    have hNF := add_NF h2.1 NF_one
    have ht : Tells (fun k => spec_l1Terms.f k a) (cs x, es x) := by rw [h1]; exact terms_ev (by omega)
    refine Tells.bind ht ?_
    refine Tells.bind (specKind_ev h) ?_
    have hl := length_le_size x
    rcases add_one_ways h2.1 with ⟨hx, hy⟩ | ⟨p, c, hx, hy⟩ | ⟨hk, hy⟩
    · refine Tells.neg (by rw [hx, kind_nil]; omega) ?_
      refine Tells.pos (by rw [cs_length]; omega) ?_
      refine Tells.pos (by rw [es_length]; omega) ?_
      exact next_j0 (by rw [hy, hx]; rfl) (by rw [hy, hx]; unfold es one; simp [row_nil]) hNF (by omega)
    · refine Tells.pos (by rw [hx, kind_snoc]; rfl) ?_
      have hw : wrap64 (((cs x).length : Int) - 1) = (p.length : Int) := by
        rw [cs_length, wrap_id (by omega) (by omega), hx]; simp <;> omega
      have hc : c ≤ 9999 := by
        have := h2.2.1
        have hh : c ≤ most x := by
          rw [hx]
          clear hx hy hw
          induction p with
          | nil => show c ≤ most [⟨c, []⟩]; rw [most_cons]; omega
          | cons t p ih => obtain ⟨d, f⟩ := t; show c ≤ most (⟨d, f⟩ :: (p ++ [⟨c, []⟩])); rw [most_cons]; omega
        omega
      have hc' := (NF_append_last (by rw [← hx]; exact h2.1)).1
      rw [hw]
      refine Tells.pos (by omega) ?_
      refine Tells.pos (by rw [cs_length, hx]; simp <;> omega) ?_
      have hrd : rd (cs x) (p.length : Int) = c := by rw [hx]; exact rdc_last p c []
      rw [hrd, wrap_id (by omega) (by omega)]
      exact next_j0 (by rw [hy, hx, Int.toNat_natCast, set_last]) (by rw [hy, hx]; exact es_last _ _ _ _) hNF (by omega)
    · refine Tells.neg (by rw [hk]; omega) ?_
      refine Tells.pos (by rw [cs_length]; omega) ?_
      refine Tells.pos (by rw [es_length]; omega) ?_
      exact next_j0 (by rw [hy, cs_append]; rfl) (by rw [hy, es_append]; unfold es one; simp [row_nil]) hNF (by omega)
theorem implOrdNext_ev {a : List Int} : Tells (fun k => impl_OrdNext.f k a) (nextv a) := by
  refine Tells.bind ordOf_ev ?_
  cases h : ordOf a with
  | none => rw [nextv_none h]; exact Tells.neg (by rw [ordv_none h]; simp) (Tells.now _)
  | some x =>
    rw [ordv_some h, nextv_some h]
    refine Tells.pos rfl ?_
    obtain ⟨h1, h2⟩ := ordOf_some h
    have hz := h2.size
    have hm := h2.2.1
    have hn := size_add x one
    have h3 := size_one
    have h4 := most_one
    have h5 : impl_number.f 1 = some one := by unfold impl_number.f; rfl
    refine Tells.bind (Tells.const h5) ?_
    refine Tells.bind (add_ev h2.1 (by show most x ≤ _; omega) (by omega) (by show size x ≤ _; omega) (by omega) NF_one) ?_
    exact Tells.bind (told_ev (by show size (add x one) ≤ _; omega)) (Tells.now _)
end Go.Proofs.Ytninfokihgbgpaa.P

namespace Go.Proofs.Ytninfokihgbgpaa.P
open OM Go.RowKit Go.Proofs.YtninfokihgbgpaaW.PrintWords Go.Proofs.YtninfokihgbgpaaW.PrintLast Go.Proofs.YtninfokihgbgpaaW.PrintMore
set_option linter.unusedVariables false

theorem byte_range {x : Int} (h : (Lit.int .u8 x).wf = true) : 0 ≤ x ∧ x ≤ 255 := by
  simp [Lit.wf, IntKind.min, IntKind.max, IntKind.signed, IntKind.bits] at h
  omega
/-- drawn from: bytes, not too many -/
def Bytes (b : List Int) : Prop := (b.length : Int) ≤ 2000 ∧ ∀ x ∈ b, 0 ≤ x ∧ x ≤ 255
theorem open_ev {l : List Int} (h : ∀ x ∈ l, (Lit.int .u8 x).wf = true) : ∃ b, Bytes b ∧ spec_l20Open.f l = some (b, 0) := by
  unfold spec_l20Open.f
  by_cases g : (l.length : Int) > 2000
  · refine ⟨l.take 2000, ⟨by simp; omega, fun x hx => byte_range (h x (List.mem_of_mem_take hx))⟩, ?_⟩
    rw [if_pos g, if_pos (by omega)]
  · refine ⟨l, ⟨by omega, fun x hx => byte_range (h x hx)⟩, ?_⟩
    rw [if_neg g]
theorem bytes_rd {b : List Int} (h : Bytes b) (i : Int) : 0 ≤ rd b i ∧ rd b i ≤ 255 := by
  show 0 ≤ b.getD i.toNat 0 ∧ b.getD i.toNat 0 ≤ 255
  rw [List.getD_eq_getElem?_getD]
  cases hj : b[i.toNat]? with
  | none => simp
  | some v =>
    obtain ⟨hjl, hjp⟩ := List.getElem?_eq_some_iff.1 hj
    have := h.2 v (by rw [← hjp]; exact List.getElem_mem hjl)
    simpa using this
theorem xor_nonneg {x y : Int} (hx : 0 ≤ x) (hx' : x ≤ 1000000000000000000) (hy : 0 ≤ y) (hy' : y ≤ 1000000000000000000) : 0 ≤ Go.bits .xor .i64 x y := by
  unfold Go.bits
  show 0 ≤ IntKind.i64.wrap ((BitVec.ofInt 64 x ^^^ BitVec.ofInt 64 y).toNat : Int)
  have h1 : (BitVec.ofInt 64 x ^^^ BitVec.ofInt 64 y).toNat < 2 ^ 63 := by
    rw [BitVec.toNat_xor]
    refine Nat.xor_lt_two_pow ?_ ?_
    · rw [BitVec.toNat_ofInt]; omega
    · rw [BitVec.toNat_ofInt]; omega
  rw [i64_w]
  unfold wrap64
  omega
theorem mix_range {r1 r2 p q : Int} (h1 : 0 ≤ r1 ∧ r1 ≤ 255) (h2 : 0 ≤ r2 ∧ r2 ≤ 255) (h3 : 0 ≤ p ∧ p ≤ 1000000000) (h4 : 0 ≤ q ∧ q ≤ 1000000000) :
    0 ≤ wrap64 ((wrap64 ((wrap64 ((wrap64 ((wrap64 r1) * 131)) + (wrap64 ((wrap64 r2) * 1117)))) + (wrap64 (p * 29)))) + (wrap64 ((wrap64 q) * 53))) ∧ wrap64 ((wrap64 ((wrap64 ((wrap64 ((wrap64 r1) * 131)) + (wrap64 ((wrap64 r2) * 1117)))) + (wrap64 (p * 29)))) + (wrap64 ((wrap64 q) * 53))) ≤ 1000000000000 := by
  rw [wrap_id (i := r1) (by omega) (by omega), wrap_id (i := r2) (by omega) (by omega), wrap_id (i := q) (by omega) (by omega), wrap_id (i := r1 * 131) (by omega) (by omega), wrap_id (i := r2 * 1117) (by omega) (by omega), wrap_id (i := p * 29) (by omega) (by omega), wrap_id (i := q * 53) (by omega) (by omega), wrap_id (i := r1 * 131 + r2 * 1117) (by omega) (by omega), wrap_id (i := r1 * 131 + r2 * 1117 + p * 29) (by omega) (by omega), wrap_id (i := r1 * 131 + r2 * 1117 + p * 29 + q * 53) (by omega) (by omega)]
  omega
theorem shift_ok {x : Int} (h : 0 ≤ x ∧ x ≤ 1000000000000) : 0 ≤ Go.bits .xor .i64 x (wrap64 (Int.tdiv x 64)) := by
  have h1 : Int.tdiv x 64 = x / 64 := Int.tdiv_eq_ediv_of_nonneg h.1
  rw [h1]
  refine xor_nonneg h.1 (by omega) ?_ ?_ <;> (unfold wrap64; omega)
theorem tmod_range {x a : Int} (hx : 0 ≤ x) (ha : 1 ≤ a) : 0 ≤ Int.tmod x a ∧ Int.tmod x a < a := by
  rw [Int.tmod_eq_emod_of_nonneg hx]
  exact ⟨Int.emod_nonneg _ (by omega), Int.emod_lt_of_pos _ (by omega)⟩
theorem tdiv_range {x a : Int} (hx : 0 ≤ x) (ha : 1 ≤ a) : 0 ≤ Int.tdiv x a ∧ Int.tdiv x a ≤ x := by
  rw [Int.tdiv_eq_ediv_of_nonneg hx]
  exact ⟨Int.ediv_nonneg hx (by omega), Int.ediv_le_self _ hx⟩
theorem pick_ev {b : List Int} (hb : Bytes b) {p a : Int} (hp : 0 ≤ p) (hp' : p ≤ 1000000000) : ∃ v, 0 ≤ v ∧ (1 ≤ a → v < a) ∧ Tells (fun k => spec_l20Rd_pick.f k b p a) (v, p + 1) := by
  have hw : wrap64 (p + 1) = p + 1 := wrap_id (by omega) (by omega)
  have hw' : wrap64 (p + 1 - 1) = p := by rw [wrap_id (by omega) (by omega)]; omega
  have hl := hb.1
  by_cases h1 : a < 1
  · refine ⟨0, by omega, by omega, ?_⟩
    refine Tells.pos h1 ?_
    refine Tells.step (fun k => by rw [spec_l20Rd_pick.j0]) ?_
    rw [hw]
    exact Tells.pos rfl (Tells.now _)
  · by_cases h2 : b = []
    · refine ⟨0, by omega, by omega, ?_⟩
      refine Tells.neg h1 ?_
      subst h2
      refine Tells.step (fun k => by rw [spec_l20Rd_pick.j0]) ?_
      rw [hw]
      exact Tells.pos rfl (Tells.now _)
    · have hlen : 1 ≤ (b.length : Int) := by have := List.length_pos_iff.2 h2; omega
      have hflag : ((b.length : Int) == 0) = false := by simp; exact h2
      have start : ∀ v, Tells (fun k => spec_l20Rd_pick.j0 k a false b (p + 1)) (v, p + 1) → Tells (fun k => spec_l20Rd_pick.f k b p a) (v, p + 1) := by
        intro v h
        refine Tells.neg h1 ?_
        rw [hflag, hw]; exact h
      by_cases h3 : p < (b.length : Int)
      · have hr := bytes_rd hb p
        have hwr : wrap64 (rd b p) = rd b p := wrap_id (by omega) (by omega)
        have ht := tmod_range (x := rd b p) (a := a) hr.1 (by omega)
        refine ⟨Int.tmod (rd b p) a, ht.1, fun _ => ht.2, start _ ?_⟩
        refine Tells.step (fun k => by rw [spec_l20Rd_pick.j0]) ?_
        refine Tells.neg (by simp) ?_
        rw [hw', hwr]
        refine Tells.pos h3 ?_
        refine Tells.pos hp ?_
        refine Tells.neg (by omega) ?_
        exact Tells.now _
      · have i1 := tmod_range (x := p) (a := (b.length : Int)) hp hlen
        have e2 : wrap64 (wrap64 (p * 7) + 3) = p * 7 + 3 := by rw [wrap_id (i := p * 7) (by omega) (by omega), wrap_id (by omega) (by omega)]
        have i2 := tmod_range (x := p * 7 + 3) (a := (b.length : Int)) (by omega) hlen
        have q1 := tdiv_range (x := p) (a := (b.length : Int)) hp hlen
        have hx := shift_ok (mix_range (bytes_rd hb (Int.tmod p (b.length : Int))) (bytes_rd hb (Int.tmod (p * 7 + 3) (b.length : Int))) ⟨hp, hp'⟩ ⟨q1.1, by omega⟩)
        have ht := tmod_range (a := a) hx (by omega)
        refine ⟨_, ht.1, fun _ => ht.2, start _ ?_⟩
        refine Tells.step (fun k => by rw [spec_l20Rd_pick.j0]) ?_
        refine Tells.neg (by simp) ?_
        rw [hw', e2]
        refine Tells.neg h3 ?_
        refine Tells.neg (by omega) ?_
        refine Tells.pos i1.1 ?_
        refine Tells.pos i1.2 ?_
        refine Tells.pos i2.1 ?_
        refine Tells.pos i2.2 ?_
        refine Tells.neg (by omega) ?_
        exact Tells.now _
end Go.Proofs.Ytninfokihgbgpaa.P

namespace Go.Proofs.Ytninfokihgbgpaa.Pure
open OM Go.RowKit Go.Proofs.Ytninfokihgbgpaa.P Go.Proofs.YtninfokihgbgpaaW.PrintWords Go.Proofs.YtninfokihgbgpaaW.PrintLast Go.Proofs.YtninfokihgbgpaaW.PrintMore
set_option linter.unusedVariables false

theorem num_Vd {n : Int} (h : 0 ≤ n ∧ n ≤ 9999) : Vd (num n) := by
  unfold num
  split
  · exact Vd_nil
  · refine ⟨NF_cons.2 ⟨by omega, NF_nil, NF_nil, trivial⟩, ?_, ?_⟩
    · rw [most_cons, most_nil]; omega
    · rw [size_cons, size_nil]; omega
theorem num_next {n : Int} (h : 0 ≤ n) : add (num n) one = num (n + 1) := by
  unfold num
  rw [if_neg (show ¬ n + 1 = 0 by omega)]
  by_cases z : n = 0
  · rw [if_pos z, z, nil_add]; rfl
  · rw [if_neg z]; exact add_eq [] n 1 [] []
theorem numOf_num {n : Int} : numOf (num n) = n := by
  unfold num
  by_cases z : n = 0
  · rw [if_pos z, z]; unfold numOf; rfl
  · rw [if_neg z]; unfold numOf; rfl
theorem ofv_yes {n : Int} (h : 0 ≤ n ∧ n ≤ 9999) : ofv n = row (num n) := by unfold ofv; rw [if_pos h]
theorem ofv_no {n : Int} (h : ¬ (0 ≤ n ∧ n ≤ 9999)) : ofv n = [] := by unfold ofv; rw [if_neg h]
theorem draw {l : List Int} (h : ∀ x ∈ l, (Lit.int .u8 x).wf = true) : ∃ v, Tells (fun k => spec_DrawOrdOf.f k l) v := by
  obtain ⟨b, hb, ho⟩ := open_ev h
  obtain ⟨v1, _, _, t1⟩ := pick_ev hb (p := 0) (a := 100) (by omega) (by omega)
  obtain ⟨v2, _, _, t2⟩ := pick_ev hb (p := 0 + 1) (a := 100) (by omega) (by omega)
  obtain ⟨v3, _, _, t3⟩ := pick_ev hb (p := 0 + 1 + 1) (a := 20) (by omega) (by omega)
  obtain ⟨v4, _, _, t4⟩ := pick_ev hb (p := 0 + 1 + 1 + 1) (a := 20) (by omega) (by omega)
  exact ⟨_, Tells.bind (Tells.const ho) (Tells.bind t1 (Tells.bind t2 (Tells.bind t3 (Tells.bind t4 (Tells.now _)))))⟩
theorem FnOrdOf : laws_FnOrdOf.Pure := by
  intro l h1 h2 h3
  refine Tells.rounds (?_ : Tells (fun k => laws_FnOrdOf.f k l) true)
  by_cases h : (l.length : Int) > 1048576
  · exact Tells.pos h (Tells.now _)
  · refine Tells.neg h ?_
    obtain ⟨n, hd⟩ := draw h3
    refine Tells.bind hd ?_
    refine Tells.bind implOrdOf_ev ?_
    refine Tells.bind (Tells.const (specOrdOf_eq n)) ?_
    have hl := ofv_length n
    refine Tells.bind (sameInts_ev (by omega)) ?_
    refine Tells.pos (by simp) ?_
    have no : ¬ (0 ≤ n ∧ n ≤ 9999) → Tells (fun k => laws_FnOrdOf.j0 k n (ofv n) true) true := by
      intro hn
      refine Tells.step (fun k => by rw [laws_FnOrdOf.j0]) ?_
      refine Tells.pos rfl ?_
      refine Tells.pos (by rw [ofv_no hn]; rfl) ?_
      exact Tells.bind alive_ev (Tells.now _)
    by_cases g1 : n < 0
    · exact Tells.pos g1 (no (by omega))
    · refine Tells.neg g1 ?_
      by_cases g2 : n > 9999
      · rw [decide_eq_true g2]; exact no (by omega)
      · rw [decide_eq_false g2]
        have hn : 0 ≤ n ∧ n ≤ 9999 := by omega
        have ho : ordOf (ofv n) = some (num n) := by rw [ofv_yes hn]; exact ordOf_row (num_Vd hn)
        refine Tells.step (fun k => by rw [laws_FnOrdOf.j0]) ?_
        refine Tells.neg (by simp) ?_
        refine Tells.bind implOrdNext_ev ?_
        refine Tells.bind implValid_ev ?_
        refine Tells.pos (by rw [ho]; rfl) ?_
        refine Tells.bind implOrdNumber_ev ?_
        refine Tells.pos (by unfold numv; rw [ho]; exact numOf_num) ?_
        rw [nextv_some ho, num_next hn.1]
        have hz := size_num (n + 1)
        by_cases g : n < 9999
        · have hm := (num_Vd (n := n + 1) (by omega)).2.1
          rw [toldv_true ⟨by omega, hm⟩, decide_eq_true g]
          refine Tells.pos rfl ?_
          refine Tells.pos rfl ?_
          rw [wrap_id (by omega) (by omega)]
          refine Tells.bind implOrdOf_ev ?_
          rw [ofv_yes (by omega)]
          refine Tells.bind (sameInts_ev (by show ((row _).length : Int) ≤ _; rw [row_length]; omega)) ?_
          exact Tells.to (Tells.now _) (by simp)
        · have hm : ¬ most (num (n + 1)) ≤ 9999 := by unfold num; rw [if_neg (by omega), most_cons, most_nil]; omega
          rw [toldv_false (fun h => hm h.2), decide_eq_false g]
          refine Tells.pos rfl ?_
          exact Tells.neg (by simp) (Tells.now _)
end Go.Proofs.Ytninfokihgbgpaa.Pure
