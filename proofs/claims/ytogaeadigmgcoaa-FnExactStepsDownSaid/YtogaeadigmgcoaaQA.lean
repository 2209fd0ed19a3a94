/- What the program's and the reference's small functions on ordinals and rows come to, with rounds enough. -/
import Derived.Test.YtogaeadigmgcoaaP0
import Derived.Test.YtogaeadigmgcoaaMath
import Derived.Test.YtogaeadigmgcoaaPcmpCompareint
import Derived.Test.YtogaeadigmgcoaaPimplcompare
import Derived.Test.YtogaeadigmgcoaaPimpltakeOrd
import Derived.Test.YtogaeadigmgcoaaPimplordOf
import Derived.Test.YtogaeadigmgcoaaPimplrowOf
import Derived.Test.YtogaeadigmgcoaaPimplsizeOf
import Derived.Test.YtogaeadigmgcoaaPimplmost
import Derived.Test.YtogaeadigmgcoaaPslicesClipintint
import Derived.Test.YtogaeadigmgcoaaPimpltold
namespace Go.Proofs.Ytogaeadigmgcoaa.P
open OM Go.RowKit Go.Proofs.YtogaeadigmgcoaaW.PrintWords Go.Proofs.YtogaeadigmgcoaaW.PrintLast Go.Proofs.YtogaeadigmgcoaaW.PrintMore
set_option linter.unusedVariables false

theorem wrap_id {i : Int} (h0 : -9000000000000000000 ≤ i) (h : i ≤ 9000000000000000000) : wrap64 i = i := by unfold wrap64; omega
theorem getD_mid {α : Type} (p s : List α) (c d : α) {i : Int} (hi : i = (p.length : Int)) : (p ++ c :: s).getD i.toNat d = c := by subst hi; simp
theorem rd_mid (p s : List Int) (c : Int) {i : Int} (hi : i = (p.length : Int)) : rd (p ++ c :: s) i = c := getD_mid p s c 0 hi
theorem rdT_mid (p s : O) (c : Tm) {i : Int} (hi : i = (p.length : Int)) : rd_T65 (p ++ c :: s) i = c := getD_mid p s c _ hi
theorem rdL_mid (p s : List (List Int)) (c : List Int) {i : Int} (hi : i = (p.length : Int)) : rd_L1 (p ++ c :: s) i = c := getD_mid p s c _ hi
theorem snoc {α : Type} (p s : List α) (c : α) : p ++ c :: s = (p ++ [c]) ++ s := by simp
theorem size_append (p r : O) : size (p ++ r) = size p + size r - 1 := by
  induction p with
  | nil => rw [size_nil]; show size r = _; omega
  | cons t p ih => obtain ⟨c, e⟩ := t; show size (⟨c, e⟩ :: (p ++ r)) = _; rw [size_cons, size_cons, ih]; omega

/-! #### comparing -/
theorem cmpInt (a b : Int) : cmp_Compare_int.f a b = some (if a < b then -1 else if b < a then 1 else 0) := by
  unfold cmp_Compare_int.f cmp_isNaN_int.f
  simp only [Option.bind_some, bne_self_eq_false, Bool.false_eq_true, if_false]
  split
  · rfl
  · split <;> rfl
theorem compare_f (k : Nat) (x y : O) : impl_compare.f (k + 1) x y = impl_compare.l0 k x y 0 := by rw [impl_compare.f]
theorem compare_l : ∀ (r p q s : O), p.length = q.length → size (p ++ r) ≤ 10000000000 → size (q ++ s) ≤ 10000000000 → Tells (fun k => impl_compare.l0 k (p ++ r) (q ++ s) (p.length : Int)) (cmp r s) := by
  intro r
  induction r using ind with
  | h0 =>
    intro p q s hl h1 h2
    have hs := length_le_size (p ++ [])
    have hq := length_le_size (q ++ s)
    refine Tells.step (fun k => by rw [impl_compare.l0]) ?_
    refine Tells.neg (by simp) ?_
    refine Tells.step (fun k => by rw [impl_compare.j1]) ?_
    refine Tells.neg (by simp) ?_
    refine Tells.bind (Tells.const (cmpInt _ _)) ?_
    refine Tells.to (Tells.now _) ?_
    simp only [List.length_append, List.length_nil, Nat.add_zero]
    cases s with
    | nil => rw [cmp_nn, if_neg (by simp; omega), if_neg (by simp; omega)]
    | cons t s => rw [cmp_nc, if_pos (by simp; omega)]
  | h1 c e r ihe ihr =>
    intro p q s hl h1 h2
    have hp := length_le_size p
    have hs := length_le_size (p ++ (⟨c, e⟩ :: r))
    have hq := length_le_size (q ++ s)
    refine Tells.step (fun k => by rw [impl_compare.l0]) ?_
    refine Tells.pos (by simp; omega) ?_
    refine Tells.step (fun k => by rw [impl_compare.j1]) ?_
    cases s with
    | nil =>
      refine Tells.neg (by simp; omega) ?_
      refine Tells.bind (Tells.const (cmpInt _ _)) ?_
      refine Tells.to (Tells.now _) ?_
      rw [cmp_cn, if_neg (by simp; omega), if_pos (by simp; omega)]
    | cons t s =>
      obtain ⟨d, f⟩ := t
      refine Tells.pos (by simp; omega) ?_
      refine Tells.pos (by omega) ?_
      refine Tells.pos (by simp; omega) ?_
      refine Tells.pos (by simp; omega) ?_
      rw [rdT_mid p r ⟨c, e⟩ rfl, rdT_mid q s ⟨d, f⟩ (by rw [hl])]
      have z1 := h1
      have z2 := h2
      rw [size_append, size_cons] at z1 z2
      have := size_pos r
      have := size_pos s
      have := size_pos p
      have := size_pos q
      have := size_pos e
      have := size_pos f
      refine Tells.bind (Tells.step (fun k => compare_f k e f) (ihe [] [] f rfl (by show size e ≤ _; omega) (by show size f ≤ _; omega))) ?_
      show Tells (fun k => if cmp e f = 0 then _ else _) _
      rw [cmp_cc]
      by_cases z : cmp e f = 0
      · refine Tells.pos z ?_
        rw [if_pos z]
        refine Tells.bind (Tells.const (cmpInt _ _)) ?_
        by_cases a : c < d
        · rw [if_pos a, if_pos a]
          exact Tells.neg (by omega) (Tells.now _)
        · by_cases b : d < c
          · rw [if_neg a, if_pos b, if_neg a, if_pos b]
            exact Tells.neg (by omega) (Tells.now _)
          · rw [if_neg a, if_neg b, if_neg a, if_neg b]
            refine Tells.pos rfl ?_
            rw [snoc p, snoc q, wrap_id (by omega) (by omega)]
            have := ihr (p ++ [⟨c, e⟩]) (q ++ [⟨d, f⟩]) s (by simp [hl]) (by rw [← snoc]; exact h1) (by rw [← snoc]; exact h2)
            rw [show ((p ++ [(⟨c, e⟩ : Tm)]).length : Int) = (p.length : Int) + 1 by simp] at this
            exact this
      · refine Tells.neg z ?_
        rw [if_neg z]
        exact Tells.now _
theorem compare_ev {x y : O} (hx : size x ≤ 10000000000) (hy : size y ≤ 10000000000) : Tells (fun k => impl_compare.f k x y) (cmp x y) :=
  Tells.step (fun k => compare_f k x y) (compare_l x [] [] y rfl hx hy)

/-! #### rows, sizes, greatest numbers -/
theorem rowOf_f (k : Nat) (x : O) : impl_rowOf.f (k + 1) x = impl_rowOf.l0 k [(x.length : Int)] x (x.length : Int) 0 := by rw [impl_rowOf.f]
theorem rowOf_l : ∀ (r p : O) (acc : List Int), size (p ++ r) ≤ 10000000000 → (acc.length : Int) + size r ≤ 20000000000 → Tells (fun k => impl_rowOf.l0 k acc (p ++ r) ((p ++ r).length : Int) (p.length : Int)) (acc ++ flat r) := by
  intro r
  induction r using ind with
  | h0 =>
    intro p acc h1 h2
    refine Tells.step (fun k => by rw [impl_rowOf.l0]) ?_
    refine Tells.neg (by simp) ?_
    refine Tells.to (Tells.now _) ?_
    rw [flat_nil, List.append_nil]
  | h1 c e r ihe ihr =>
    intro p acc h1 h2
    have hp := length_le_size p
    have z1 := h1
    rw [size_append, size_cons] at z1
    rw [size_cons] at h2
    have := size_pos r
    have := size_pos p
    have := size_pos e
    refine Tells.step (fun k => by rw [impl_rowOf.l0]) ?_
    refine Tells.pos (by simp; omega) ?_
    refine Tells.pos (by omega) ?_
    refine Tells.pos (by simp; omega) ?_
    refine Tells.pos (by omega) ?_
    refine Tells.sbind ?_
    rw [rdT_mid p r ⟨c, e⟩ rfl]
    refine Tells.bind (Tells.step (fun k => rowOf_f k e) (ihe [] [(e.length : Int)] (by show size e ≤ _; omega) (by simp; omega))) ?_
    have hl := row_length e
    have he : ([(e.length : Int)] ++ flat e) = row e := rfl
    rw [he]
    refine Tells.pos (by simp only [List.length_append, List.length_cons, List.length_nil]; omega) ?_
    rw [wrap_id (by omega) (by omega), snoc p]
    have := ihr (p ++ [⟨c, e⟩]) (acc ++ [c] ++ row e) (by rw [← snoc]; exact h1) (by simp only [List.length_append, List.length_cons, List.length_nil]; omega)
    rw [show ((p ++ [(⟨c, e⟩ : Tm)]).length : Int) = (p.length : Int) + 1 by simp] at this
    refine Tells.to this ?_
    rw [flat_cons]; simp
theorem rowOf_ev {x : O} (hx : size x ≤ 10000000000) : Tells (fun k => impl_rowOf.f k x) (row x) :=
  Tells.step (fun k => rowOf_f k x) (rowOf_l x [] [(x.length : Int)] hx (by simp; omega))
theorem sizeOf_f (k : Nat) (x : O) : impl_sizeOf.f (k + 1) x = impl_sizeOf.l0 k 1 x (x.length : Int) 0 := by rw [impl_sizeOf.f]
theorem sizeOf_l : ∀ (r p : O) (n : Int), size (p ++ r) ≤ 10000000000 → 0 ≤ n → n + size r ≤ 20000000000 → Tells (fun k => impl_sizeOf.l0 k n (p ++ r) ((p ++ r).length : Int) (p.length : Int)) (n + size r - 1) := by
  intro r
  induction r using ind with
  | h0 =>
    intro p n h1 h2 h3
    refine Tells.step (fun k => by rw [impl_sizeOf.l0]) ?_
    refine Tells.neg (by simp) ?_
    refine Tells.to (Tells.now _) ?_
    rw [size_nil]; omega
  | h1 c e r ihe ihr =>
    intro p n h1 h2 h3
    have hp := length_le_size p
    have z1 := h1
    rw [size_append, size_cons] at z1
    rw [size_cons] at h3 ⊢
    have := size_pos r
    have := size_pos p
    have := size_pos e
    refine Tells.step (fun k => by rw [impl_sizeOf.l0]) ?_
    refine Tells.pos (by simp; omega) ?_
    refine Tells.pos (by omega) ?_
    refine Tells.pos (by simp; omega) ?_
    rw [rdT_mid p r ⟨c, e⟩ rfl]
    refine Tells.bind (Tells.step (fun k => sizeOf_f k e) (ihe [] 1 (by show size e ≤ _; omega) (by omega) (by omega))) ?_
    rw [wrap_id (i := (p.length : Int) + 1) (by omega) (by omega), wrap_id (i := 1 + (1 + size e - 1)) (by omega) (by omega), wrap_id (i := n + (1 + (1 + size e - 1))) (by omega) (by omega), snoc p]
    have := ihr (p ++ [⟨c, e⟩]) (n + (1 + (1 + size e - 1))) (by rw [← snoc]; exact h1) (by omega) (by omega)
    rw [show ((p ++ [(⟨c, e⟩ : Tm)]).length : Int) = (p.length : Int) + 1 by simp] at this
    exact Tells.to this (by omega)
theorem sizeOf_ev {x : O} (hx : size x ≤ 10000000000) : Tells (fun k => impl_sizeOf.f k x) (size x) :=
  Tells.to (Tells.step (fun k => sizeOf_f k x) (sizeOf_l x [] 1 hx (by omega) (by omega))) (by omega)
theorem mx_max (a b : Int) : mx a b = max a b := by unfold mx; omega
theorem most_f (k : Nat) (x : O) : impl_most.f (k + 1) x = impl_most.l0 k 0 x (x.length : Int) 0 := by rw [impl_most.f]
theorem most_l : ∀ (r p : O) (n : Int), size (p ++ r) ≤ 10000000000 → 0 ≤ n → Tells (fun k => impl_most.l0 k n (p ++ r) ((p ++ r).length : Int) (p.length : Int)) (max n (most r)) := by
  intro r
  induction r using ind with
  | h0 =>
    intro p n h1 h2
    refine Tells.step (fun k => by rw [impl_most.l0]) ?_
    refine Tells.neg (by simp) ?_
    refine Tells.to (Tells.now _) ?_
    rw [most_nil]; omega
  | h1 c e r ihe ihr =>
    intro p n h1 h2
    have hp := length_le_size p
    have z1 := h1
    rw [size_append, size_cons] at z1
    have := size_pos r
    have := size_pos p
    have := size_pos e
    have := most_pos e
    refine Tells.step (fun k => by rw [impl_most.l0]) ?_
    refine Tells.pos (by simp; omega) ?_
    refine Tells.pos (by omega) ?_
    refine Tells.pos (by simp; omega) ?_
    rw [rdT_mid p r ⟨c, e⟩ rfl]
    refine Tells.bind (Tells.step (fun k => most_f k e) (ihe [] 0 (by show size e ≤ _; omega) (by omega))) ?_
    rw [wrap_id (i := (p.length : Int) + 1) (by omega) (by omega), mx_max, mx_max, snoc p]
    have := ihr (p ++ [⟨c, e⟩]) (max (max n c) (max 0 (most e))) (by rw [← snoc]; exact h1) (by omega)
    rw [show ((p ++ [(⟨c, e⟩ : Tm)]).length : Int) = (p.length : Int) + 1 by simp] at this
    refine Tells.to this ?_
    rw [most_cons]; omega
theorem most_ev {x : O} (hx : size x ≤ 10000000000) : Tells (fun k => impl_most.f k x) (most x) :=
  Tells.to (Tells.step (fun k => most_f k x) (most_l x [] 0 hx (by omega))) (by have := most_pos x; omega)
/-- what told tells -/
def toldv (x : O) : List Int × Bool := if size x ≤ 60 ∧ most x ≤ 9999 then (row x, true) else ([], false)
theorem told_ev {x : O} (hx : size x ≤ 10000000000) : Tells (fun k => impl_told.f k x) (toldv x) := by
  unfold toldv
  refine Tells.bind (sizeOf_ev hx) ?_
  by_cases h : size x > 60
  · refine Tells.pos h ?_
    refine Tells.step (fun k => by rw [impl_told.j0]) ?_
    refine Tells.pos rfl ?_
    rw [if_neg (by omega)]; exact Tells.now _
  · refine Tells.neg h ?_
    refine Tells.bind (most_ev hx) ?_
    refine Tells.step (fun k => by rw [impl_told.j0]) ?_
    by_cases g : most x > 9999
    · refine Tells.pos (decide_eq_true g) ?_
      rw [if_neg (by omega)]; exact Tells.now _
    · refine Tells.neg (by simp; omega) ?_
      rw [if_pos (by omega)]
      refine Tells.bind (rowOf_ev hx) ?_
      exact Tells.now _

/-! #### reading a row: the program -/
theorem rd_zero (a : Int) (l : List Int) : rd (a :: l) 0 = a := rfl
theorem takeOrd_l {n : Nat} (ih : ∀ l : List Int, l.length < n → (l.length : Int) ≤ 100000000 → Tells (fun k => impl_takeOrd.f k l) (match take n l with | none => ([], [], false) | some (x, l') => (x, l', true))) :
    ∀ (c : Nat) (acc : O) (l : List Int) (last : Option O) (m : Int), l.length ≤ n → (l.length : Int) ≤ 100000000 → m = (acc.length : Int) + c → 0 ≤ m → m ≤ 60 → size acc + (l.length : Int) ≤ 200000000 →
      (∀ t a, acc = a ++ [t] → last = some t.f1) → (acc = [] → last = none) →
      Tells (fun k => impl_takeOrd.l0 k l acc m (acc.length : Int)) (match terms (take n) c last l with | none => ([], [], false) | some (x, l') => (acc ++ x, l', true)) := by
  intro c
  induction c with
  | zero =>
    intro acc l last m h1 h1' h2 h3 h4 hz h5 h6
    refine Tells.step (fun k => by rw [impl_takeOrd.l0]) ?_
    refine Tells.neg (by omega) ?_
    refine Tells.to (Tells.now _) ?_
    unfold terms; simp
  | succ c ihc =>
    intro acc l last m h1 h1' h2 h3 h4 hz h5 h6
    have hacc := size_pos acc
    refine Tells.step (fun k => by rw [impl_takeOrd.l0]) ?_
    refine Tells.pos (by omega) ?_
    have bad : Tells (fun k => impl_takeOrd.j2 k l acc (acc.length : Int) m (acc.length : Int) true) (([] : O), ([] : List Int), false) := by
      refine Tells.step (fun k => by rw [impl_takeOrd.j2]) ?_
      exact Tells.pos rfl (Tells.now _)
    cases l with
    | nil =>
      refine Tells.pos rfl ?_
      refine Tells.to bad ?_
      unfold terms; rfl
    | cons t l =>
      refine Tells.neg (by simp <;> omega) ?_
      refine Tells.pos (by simp <;> omega) ?_
      rw [rd_zero, terms]
      by_cases ht : t < 1
      · refine Tells.pos ht ?_
        refine Tells.to bad ?_
        rw [if_neg (by omega)]
      · refine Tells.neg ht ?_
        by_cases ht' : t > 9999
        · rw [decide_eq_true ht']
          refine Tells.to bad ?_
          rw [if_neg (by omega)]
        · rw [decide_eq_false ht', if_pos (by omega)]
          refine Tells.step (fun k => by rw [impl_takeOrd.j2]) ?_
          refine Tells.neg (by simp) ?_
          refine Tells.pos (by simp; omega) ?_
          simp only [List.length_cons] at h1 h1' hz
          refine Tells.bind (ih l (by omega) (by omega)) ?_
          cases hk : take n l with
          | none => exact Tells.neg (by simp) (Tells.now _)
          | some q =>
            obtain ⟨e, l1⟩ := q
            simp only
            refine Tells.pos trivial ?_
            have hlen := take_len hk
            obtain ⟨a1, a2, a3⟩ := take_good _ _ _ _ hk
            have hse : size e + (l1.length : Int) = (l.length : Int) := by
              have := row_length e
              rw [a1, List.length_append]; omega
            have go : ∀ last', last' = some e → Tells (fun k => if 0 < (((t :: l).length : Nat) : Int) then (if acc.length < 4398046511104 then (impl_takeOrd.l0 k l1 (acc ++ [(⟨rd (t :: l) 0, e⟩ : Tm)]) m (wrap64 ((acc.length : Int) + 1))) else none) else none)
                (match (match terms (take n) c last' l1 with | none => none | some (r, l'') => some ((⟨t, e⟩ : Tm) :: r, l'')) with | none => ([], [], false) | some (x, l') => (acc ++ x, l', true)) := by
              intro last' hl'
              refine Tells.pos (by simp <;> omega) ?_
              refine Tells.pos (by have := length_le_size acc; omega) ?_
              rw [rd_zero, wrap_id (by omega) (by omega)]
              have := ihc (acc ++ [⟨t, e⟩]) l1 last' m (by omega) (by omega) (by simp; omega) h3 h4 (by rw [size_append, size_cons, size_nil]; omega)
                (fun t' a ha => by
                  have := List.append_inj_right' ha rfl
                  injection this with this
                  rw [hl', ← this])
                (fun ha => by simp at ha)
              rw [show ((acc ++ [(⟨t, e⟩ : Tm)]).length : Int) = (acc.length : Int) + 1 by simp] at this
              refine Tells.to this ?_
              cases terms (take n) c last' l1 with
              | none => rfl
              | some q => obtain ⟨r, l2⟩ := q; simp
            rcases List.eq_nil_or_concat acc with hacc | ⟨a, t', hacc⟩
            · have hl := h6 hacc
              subst hl
              refine Tells.neg (by rw [hacc]; simp) ?_
              have : late none e = false := rfl
              rw [if_neg (by rw [this]; simp)]
              exact go (some e) rfl
            · rw [List.concat_eq_append] at hacc
              have hl := h5 t' a hacc
              have hp : (acc.length : Int) = (a.length : Int) + 1 := by rw [hacc]; simp
              refine Tells.pos (by omega) ?_
              rw [wrap_id (by omega) (by omega)]
              refine Tells.pos (by omega) ?_
              refine Tells.pos (by omega) ?_
              have hrd : rd_T65 acc ((acc.length : Int) - 1) = t' := by
                rw [hacc]; exact rdT_mid a [] t' (by simp)
              rw [hrd]
              have hst : size t'.f1 ≤ size acc := by
                obtain ⟨ct, et⟩ := t'
                have := size_pos a
                have := size_pos et
                rw [hacc, size_append, size_cons, size_nil]; show size et ≤ _; omega
              refine Tells.bind (compare_ev (by omega) (by omega)) ?_
              subst hl
              by_cases hc : cmp e t'.f1 ≥ 0
              · refine Tells.pos hc ?_
                have : late (some t'.f1) e = true := by unfold late; simp only [decide_eq_true_eq]; exact hc
                rw [if_pos this]
                exact Tells.now _
              · refine Tells.neg hc ?_
                have : ¬ late (some t'.f1) e = true := by unfold late; simp only [decide_eq_true_eq]; exact hc
                rw [if_neg this]
                exact go (some e) rfl
theorem takeOrd_ev : ∀ (n : Nat) (l : List Int), l.length < n → (l.length : Int) ≤ 100000000 → Tells (fun k => impl_takeOrd.f k l) (match take n l with | none => ([], [], false) | some (x, l') => (x, l', true)) := by
  intro n
  induction n with
  | zero => intro l h; omega
  | succ n ih =>
    intro l h h'
    refine Tells.step (fun k => by rw [impl_takeOrd.f]) ?_
    cases l with
    | nil => refine Tells.pos rfl ?_; unfold take; exact Tells.now _
    | cons m l =>
      simp only [List.length_cons] at h h'
      refine Tells.neg (by simp <;> omega) ?_
      refine Tells.pos (by simp <;> omega) ?_
      refine Tells.pos (by simp <;> omega) ?_
      refine Tells.sbind ?_
      refine Tells.sbind ?_
      rw [rd_zero, take]
      by_cases h1 : m < 0
      · refine Tells.pos h1 ?_
        refine Tells.step (fun k => by rw [impl_takeOrd.j0]) ?_
        refine Tells.pos rfl ?_
        rw [if_neg (by omega)]; exact Tells.now _
      · refine Tells.neg h1 ?_
        refine Tells.step (fun k => by rw [impl_takeOrd.j0]) ?_
        by_cases h2 : m > 60
        · refine Tells.pos (decide_eq_true h2) ?_
          rw [if_neg (by omega)]; exact Tells.now _
        · refine Tells.neg (by simp; omega) ?_
          rw [if_pos (by omega)]
          have := takeOrd_l ih m.toNat [] l none m (by omega) (by omega) (by simp; omega) (by omega) (by omega) (by rw [size_nil]; omega) (fun t a ha => by simp at ha) (fun _ => rfl)
          exact this
/-- what ordOf tells -/
def ordv (l : List Int) : O × Bool := match ordOf l with
  | some x => (x, true)
  | none => ((if 1 ≤ l.length ∧ l.length ≤ 60 then (match take 61 l with | some (x, _) => x | none => []) else []), false)
theorem ordOf_ev {l : List Int} : Tells (fun k => impl_ordOf.f k l) (ordv l) := by
  unfold ordv ordOf
  by_cases h1 : (l.length : Int) < 1
  · refine Tells.pos h1 ?_
    rw [if_neg (by omega), if_neg (by omega)]; exact Tells.now _
  · refine Tells.neg h1 ?_
    by_cases h2 : (l.length : Int) > 60
    · refine Tells.pos h2 ?_
      rw [if_neg (by omega), if_neg (by omega)]; exact Tells.now _
    · refine Tells.neg h2 ?_
      refine Tells.bind (takeOrd_ev 61 l (by omega) (by omega)) ?_
      have hc : 1 ≤ l.length ∧ l.length ≤ 60 := by omega
      rw [if_pos hc, if_pos hc]
      cases take 61 l with
      | none => exact Tells.neg (by simp) (Tells.now _)
      | some q =>
        obtain ⟨x, l'⟩ := q
        refine Tells.pos rfl ?_
        cases l' with
        | nil => exact Tells.now _
        | cons a l' => refine Tells.to (Tells.now _) ?_; simp; omega
end Go.Proofs.Ytogaeadigmgcoaa.P
