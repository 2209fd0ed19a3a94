/- What the functions that tell a number or a truth of an ordinal come to, the program's and the reference's: the same. -/
import Derived.Test.YtgohpemgjladeaaP0
import Derived.Test.YtgohpemgjladeaaMath
import Derived.Test.YtgohpemgjladeaaPspecOrdCompare
import Derived.Test.YtgohpemgjladeaaPimplOrdCompare
import Derived.Test.YtgohpemgjladeaaPspecOrdNumber
import Derived.Test.YtgohpemgjladeaaPimplOrdNumber
import Derived.Test.YtgohpemgjladeaaPspecOrdMost
import Derived.Test.YtgohpemgjladeaaPimplOrdMost
import Derived.Test.YtgohpemgjladeaaPspecOrdDepth
import Derived.Test.YtgohpemgjladeaaPimplOrdDepth
import Derived.Test.YtgohpemgjladeaaPspecBaseOk
import Derived.Test.YtgohpemgjladeaaPimplBaseOk
import Derived.Test.YtgohpemgjladeaaPimplOrdValid
import Derived.Test.YtgohpemgjladeaaQA
import Derived.Test.YtgohpemgjladeaaQB
import Derived.Test.YtgohpemgjladeaaQC
namespace Go.Proofs.Ytgohpemgjladeaa.P
open OM Go.RowKit Go.Proofs.YtgohpemgjladeaaW.PrintWords Go.Proofs.YtgohpemgjladeaaW.PrintLast Go.Proofs.YtgohpemgjladeaaW.PrintMore
set_option linter.unusedVariables false

theorem ordv_some {l : List Int} {x : O} (h : ordOf l = some x) : ordv l = (x, true) := by unfold ordv; rw [h]
theorem ordv_none {l : List Int} (h : ordOf l = none) : (ordv l).2 = false := by unfold ordv; rw [h]
theorem valid_ev {l : List Int} {x : O} (h : ordOf l = some x) : Tells (fun k => spec_OrdValid.f k l) true := by
  have h1 := ordOf_some h
  have h2 := row_length x
  have := @ordValid_ev l (by rw [h1.1, h2]; have := h1.2.2.2; omega)
  rw [h] at this; exact this
theorem invalid_ev {l : List Int} (hl : (l.length : Int) ≤ 100000000) (h : ordOf l = none) : Tells (fun k => spec_OrdValid.f k l) false := by
  have := @ordValid_ev l hl
  rw [h] at this; exact this
theorem ord_ev {l : List Int} {x : O} (h : ordOf l = some x) : Tells (fun k => impl_ordOf.f k l) (x, true) := by
  have := @ordOf_ev l
  rw [ordv_some h] at this; exact this
theorem es_zero (c : Int) (e r : O) : rd_L2 (es (⟨c, e⟩ :: r)) 0 = row e := rfl
theorem cs_zero (c : Int) (e r : O) : rd (cs (⟨c, e⟩ :: r)) 0 = c := rfl
theorem rdT_zero (t : Tm) (r : O) : rd_T49 (t :: r) 0 = t := rfl
theorem row_one {x : O} : ((row x).length : Int) = 1 ↔ x = [] := by
  rw [row_length]
  cases x with
  | nil => rw [size_nil]; simp
  | cons t r =>
    obtain ⟨c, e⟩ := t
    rw [size_cons]
    have := size_pos e
    have := size_pos r
    constructor
    · intro h; omega
    · intro h; cases h

/-! #### valid -/
theorem implValid_ev {l : List Int} : Tells (fun k => impl_OrdValid.f k l) (ordOf l).isSome := by
  refine Tells.bind ordOf_ev ?_
  refine Tells.to (Tells.now _) ?_
  unfold ordv
  cases ordOf l <;> rfl

/-! #### compared -/
def compv (a b : List Int) : Int := match ordOf a, ordOf b with
  | some x, some y => cmp x y
  | _, _ => -2
theorem specOrdCompare_ev {a b : List Int} (ha : (a.length : Int) ≤ 100000000) (hb : (b.length : Int) ≤ 100000000) : Tells (fun k => spec_OrdCompare.f k a b) (compv a b) := by
  unfold compv
  cases h : ordOf a with
  | none =>
    refine Tells.bind (invalid_ev ha h) ?_
    exact Tells.neg (by simp) (Tells.now _)
  | some x =>
    refine Tells.bind (valid_ev h) ?_
    refine Tells.pos rfl ?_
    cases g : ordOf b with
    | none =>
      refine Tells.bind (invalid_ev hb g) ?_
      exact Tells.neg (by simp) (Tells.now _)
    | some y =>
      refine Tells.bind (valid_ev g) ?_
      refine Tells.pos rfl ?_
      obtain ⟨h1, h2⟩ := ordOf_some h
      obtain ⟨g1, g2⟩ := ordOf_some g
      rw [h1, g1]
      have := h2.size
      have := g2.size
      exact Tells.bind (specCompare_ev (by omega) (by omega)) (Tells.now _)
theorem implOrdCompare_ev {a b : List Int} : Tells (fun k => impl_OrdCompare.f k a b) (compv a b) := by
  refine Tells.bind ordOf_ev ?_
  refine Tells.bind ordOf_ev ?_
  unfold compv
  cases h : ordOf a with
  | none => exact Tells.neg (by rw [ordv_none h]; simp) (Tells.now _)
  | some x =>
    rw [ordv_some h]
    refine Tells.pos rfl ?_
    cases g : ordOf b with
    | none => exact Tells.neg (by rw [ordv_none g]; simp) (Tells.now _)
    | some y =>
      rw [ordv_some g]
      refine Tells.pos rfl ?_
      have := (ordOf_some h).2.size
      have := (ordOf_some g).2.size
      exact Tells.bind (compare_ev (by show size x ≤ _; omega) (by show size y ≤ _; omega)) (Tells.now _)

/-! #### numbers -/
def numOf : O → Int
  | [] => 0
  | [⟨c, e⟩] => if e.isEmpty then c else -1
  | _ :: _ :: _ => -1
def numv (a : List Int) : Int := match ordOf a with
  | some x => numOf x
  | none => -1
theorem specOrdNumber_ev {a : List Int} (ha : (a.length : Int) ≤ 100000000) : Tells (fun k => spec_OrdNumber.f k a) (numv a) := by
  unfold numv
  cases h : ordOf a with
  | none =>
    refine Tells.bind (invalid_ev ha h) ?_
    exact Tells.neg (by simp) (Tells.now _)
  | some x =>
    refine Tells.bind (valid_ev h) ?_
    refine Tells.pos rfl ?_
    obtain ⟨h1, h2⟩ := ordOf_some h
    have := h2.size
    rw [h1]
    refine Tells.bind (terms_ev (by omega)) ?_
    cases x with
    | nil => exact Tells.pos rfl (Tells.now _)
    | cons t r =>
      obtain ⟨c, e⟩ := t
      refine Tells.neg (by rw [cs_length]; simp; omega) ?_
      cases r with
      | cons u s => exact Tells.neg (by rw [cs_length]; simp; omega) (Tells.now _)
      | nil =>
        refine Tells.pos (by rw [cs_length]; simp) ?_
        refine Tells.pos (by rw [es_length]; simp) ?_
        rw [es_zero]
        cases e with
        | nil =>
          refine Tells.pos (row_one.2 rfl) ?_
          refine Tells.pos (by rw [cs_length]; simp) ?_
          exact Tells.now _
        | cons u s =>
          refine Tells.neg (fun hh => by cases row_one.1 hh) ?_
          exact Tells.now _
theorem implOrdNumber_ev {a : List Int} : Tells (fun k => impl_OrdNumber.f k a) (numv a) := by
  refine Tells.bind ordOf_ev ?_
  unfold numv
  cases h : ordOf a with
  | none => exact Tells.neg (by rw [ordv_none h]; simp) (Tells.now _)
  | some x =>
    rw [ordv_some h]
    refine Tells.pos rfl ?_
    cases x with
    | nil => exact Tells.pos rfl (Tells.now _)
    | cons t r =>
      obtain ⟨c, e⟩ := t
      refine Tells.neg (by simp; omega) ?_
      cases r with
      | cons u s => exact Tells.neg (by simp; omega) (Tells.now _)
      | nil =>
        refine Tells.pos (by simp) ?_
        refine Tells.pos (by simp) ?_
        rw [rdT_zero]
        cases e with
        | nil => exact Tells.pos rfl (Tells.now _)
        | cons u s => exact Tells.neg (by simp; omega) (Tells.now _)

/-! #### the greatest number -/
def mostv (a : List Int) : Int := match ordOf a with
  | some x => most x
  | none => -1
theorem specMost_l : ∀ (r p : O) (m : Int), Vd (p ++ r) → 0 ≤ m → Tells (fun k => spec_OrdMost.l0 k (cs (p ++ r)) (es (p ++ r)) m (p.length : Int)) (max m (most r)) := by
  intro r
  induction r using ind with
  | h0 =>
    intro p m h1 h2
    refine Tells.step (fun k => by rw [spec_OrdMost.l0]) ?_
    refine Tells.neg (by rw [cs_length]; simp) ?_
    refine Tells.to (Tells.now _) ?_
    rw [most_nil]; omega
  | h1 c e r ihe ihr =>
    intro p m h1 h2
    have hsz := h1.size
    have hp := length_le_size (p ++ ⟨c, e⟩ :: r)
    have hp' : (p.length : Int) ≤ 60 := by simp at hp; omega
    have hv : Vd e := by
      obtain ⟨g1, g2, g3⟩ := h1
      have : NF e ∧ most e ≤ most (p ++ ⟨c, e⟩ :: r) := by
        clear ihe ihr hp hp' hsz g2 g3 h2
        induction p with
        | nil =>
          have := NF_cons.1 g1
          show NF e ∧ most e ≤ most (⟨c, e⟩ :: r)
          rw [most_cons]; exact ⟨this.2.1, by omega⟩
        | cons t p ih =>
          obtain ⟨d, f⟩ := t
          have := ih (NF_cons.1 g1).2.2.1
          show NF e ∧ most e ≤ most (⟨d, f⟩ :: (p ++ ⟨c, e⟩ :: r))
          rw [most_cons]; exact ⟨this.1, by omega⟩
      refine ⟨this.1, by omega, ?_⟩
      rw [size_append, size_cons] at g3
      have := size_pos p
      have := size_pos r
      omega
    refine Tells.step (fun k => by rw [spec_OrdMost.l0]) ?_
    refine Tells.pos (by rw [cs_length]; simp; omega) ?_
    refine Tells.pos (by omega) ?_
    refine Tells.pos (by rw [es_length]; simp; omega) ?_
    have he : rd_L2 (es (p ++ ⟨c, e⟩ :: r)) (p.length : Int) = row e := by rw [es_append, es_cons]; exact rdL_mid _ _ _ (by rw [es_length])
    have hc : rd (cs (p ++ ⟨c, e⟩ :: r)) (p.length : Int) = c := by rw [cs_append, cs_cons]; exact rd_mid _ _ _ (by rw [cs_length])
    rw [he, hc]
    have hf : Tells (fun k => spec_OrdMost.f k (row e)) (most e) := by
      refine Tells.step (fun k => by rw [spec_OrdMost.f]) ?_
      refine Tells.bind (valid_ev (ordOf_row hv)) ?_
      refine Tells.pos rfl ?_
      have := hv.size
      refine Tells.bind (terms_ev (by omega)) ?_
      have := ihe [] 0 hv (by omega)
      exact Tells.to this (by have := most_pos e; omega)
    refine Tells.bind hf ?_
    rw [mx_max, mx_max, wrap_id (by omega) (by omega), snoc p]
    have := ihr (p ++ [⟨c, e⟩]) (max m (max c (most e))) (by rw [← snoc]; exact h1) (by omega)
    rw [show ((p ++ [(⟨c, e⟩ : Tm)]).length : Int) = (p.length : Int) + 1 by simp] at this
    refine Tells.to this ?_
    rw [most_cons]; omega
theorem specOrdMost_ev {a : List Int} (ha : (a.length : Int) ≤ 100000000) : Tells (fun k => spec_OrdMost.f k a) (mostv a) := by
  unfold mostv
  refine Tells.step (fun k => by rw [spec_OrdMost.f]) ?_
  cases h : ordOf a with
  | none =>
    refine Tells.bind (invalid_ev ha h) ?_
    exact Tells.neg (by simp) (Tells.now _)
  | some x =>
    refine Tells.bind (valid_ev h) ?_
    refine Tells.pos rfl ?_
    obtain ⟨h1, h2⟩ := ordOf_some h
    have := h2.size
    rw [h1]
    refine Tells.bind (terms_ev (by omega)) ?_
    exact Tells.to (specMost_l x [] 0 h2 (by omega)) (by have := most_pos x; show _ = most x; omega)
theorem implOrdMost_ev {a : List Int} : Tells (fun k => impl_OrdMost.f k a) (mostv a) := by
  refine Tells.bind ordOf_ev ?_
  unfold mostv
  cases h : ordOf a with
  | none => exact Tells.neg (by rw [ordv_none h]; simp) (Tells.now _)
  | some x =>
    rw [ordv_some h]
    refine Tells.pos rfl ?_
    have := (ordOf_some h).2.size
    exact Tells.bind (most_ev (by show size x ≤ _; omega)) (Tells.now _)

/-! #### how deep -/
def depth : O → Int
  | [] => 0
  | ⟨_, e⟩ :: _ => depth e + 1
theorem depth_nil : depth [] = 0 := by unfold depth; rfl
theorem depth_cons (c : Int) (e r : O) : depth (⟨c, e⟩ :: r) = depth e + 1 := by rw [depth]
def depthv (a : List Int) : Int := match ordOf a with
  | some x => depth x
  | none => -1
theorem depth_pos (x : O) : 0 ≤ depth x := by
  induction x using ind with
  | h0 => rw [depth_nil]; omega
  | h1 c e r ihe ihr => rw [depth_cons]; omega
theorem specDepth_l : ∀ (x : O) (n : Int), size x ≤ 1000 → 0 ≤ n → n + size x ≤ 2000 → Tells (fun k => spec_OrdDepth.l0 k (row x) n) (n + depth x) := by
  intro x
  induction x using ind with
  | h0 =>
    intro n h1 h2 h3
    refine Tells.step (fun k => by rw [spec_OrdDepth.l0]) ?_
    refine Tells.neg (by rw [row_length, size_nil]; omega) ?_
    refine Tells.to (Tells.now _) ?_
    rw [depth_nil]; omega
  | h1 c e r ihe ihr =>
    intro n h1 h2 h3
    have h1' := h1
    rw [size_cons] at h1' h3
    have := size_pos e
    have := size_pos r
    refine Tells.step (fun k => by rw [spec_OrdDepth.l0]) ?_
    refine Tells.pos (by rw [row_length, size_cons]; omega) ?_
    refine Tells.bind (terms_ev (by omega)) ?_
    refine Tells.pos (by rw [es_length]; simp <;> omega) ?_
    rw [es_zero, wrap_id (by omega) (by omega)]
    refine Tells.to (ihe (n + 1) (by omega) (by omega) (by omega)) ?_
    rw [depth_cons]; omega
theorem implDepth_l : ∀ (x : O) (n : Int), size x ≤ 1000 → 0 ≤ n → n + size x ≤ 2000 → Tells (fun k => impl_OrdDepth.l0 k x n) (n + depth x) := by
  intro x
  induction x using ind with
  | h0 =>
    intro n h1 h2 h3
    refine Tells.step (fun k => by rw [impl_OrdDepth.l0]) ?_
    refine Tells.neg (by simp) ?_
    refine Tells.to (Tells.now _) ?_
    rw [depth_nil]; omega
  | h1 c e r ihe ihr =>
    intro n h1 h2 h3
    rw [size_cons] at h1 h3
    have := size_pos e
    have := size_pos r
    refine Tells.step (fun k => by rw [impl_OrdDepth.l0]) ?_
    refine Tells.pos (by simp <;> omega) ?_
    refine Tells.pos (by simp <;> omega) ?_
    rw [rdT_zero, wrap_id (by omega) (by omega)]
    refine Tells.to (ihe (n + 1) (by omega) (by omega) (by omega)) ?_
    rw [depth_cons]; omega
theorem specOrdDepth_ev {a : List Int} (ha : (a.length : Int) ≤ 100000000) : Tells (fun k => spec_OrdDepth.f k a) (depthv a) := by
  unfold depthv
  cases h : ordOf a with
  | none =>
    refine Tells.bind (invalid_ev ha h) ?_
    exact Tells.neg (by simp) (Tells.now _)
  | some x =>
    refine Tells.bind (valid_ev h) ?_
    refine Tells.pos rfl ?_
    obtain ⟨h1, h2⟩ := ordOf_some h
    have := h2.size
    rw [h1]
    exact Tells.to (specDepth_l x 0 (by omega) (by omega) (by omega)) (by show _ = depth x; omega)
theorem implOrdDepth_ev {a : List Int} : Tells (fun k => impl_OrdDepth.f k a) (depthv a) := by
  refine Tells.bind ordOf_ev ?_
  unfold depthv
  cases h : ordOf a with
  | none => exact Tells.neg (by rw [ordv_none h]; simp) (Tells.now _)
  | some x =>
    rw [ordv_some h]
    refine Tells.pos rfl ?_
    have := (ordOf_some h).2.size
    exact Tells.to (implDepth_l x 0 (by omega) (by omega) (by omega)) (by show _ = depth x; omega)

/-! #### of a base -/
def basev (a : List Int) (b : Int) : Bool := match ordOf a with
  | some x => decide (2 ≤ b ∧ b ≤ 90 ∧ most x < b)
  | none => false
theorem specBaseOk_ev {a : List Int} {b : Int} (ha : (a.length : Int) ≤ 100000000) : Tells (fun k => spec_BaseOk.f k a b) (basev a b) := by
  unfold basev
  cases h : ordOf a with
  | none =>
    refine Tells.bind (invalid_ev ha h) ?_
    exact Tells.neg (by simp) (Tells.now _)
  | some x =>
    refine Tells.bind (valid_ev h) ?_
    refine Tells.pos rfl ?_
    refine Tells.bind (Tells.const (l1In_eq b 2 90)) ?_
    by_cases hb : 2 ≤ b ∧ b ≤ 90
    · refine Tells.pos (decide_eq_true hb) ?_
      refine Tells.bind (specOrdMost_ev ha) ?_
      refine Tells.to (Tells.now _) ?_
      unfold mostv; rw [h]
      by_cases hm : most x < b <;> simp [hm, hb]
    · refine Tells.neg (by simp; omega) ?_
      refine Tells.to (Tells.now _) ?_
      simp; omega
theorem implBaseOk_ev {a : List Int} {b : Int} : Tells (fun k => impl_BaseOk.f k a b) (basev a b) := by
  refine Tells.bind ordOf_ev ?_
  unfold basev
  cases h : ordOf a with
  | none => exact Tells.neg (by rw [ordv_none h]; simp) (Tells.now _)
  | some x =>
    rw [ordv_some h]
    refine Tells.pos rfl ?_
    by_cases h1 : b ≥ 2
    · refine Tells.pos h1 ?_
      by_cases h2 : b ≤ 90
      · refine Tells.pos h2 ?_
        have := (ordOf_some h).2.size
        refine Tells.bind (most_ev (by show size x ≤ _; omega)) ?_
        refine Tells.to (Tells.now _) ?_
        by_cases hm : most x < b <;> simp [hm, h1, h2]
      · refine Tells.neg h2 ?_
        refine Tells.to (Tells.now _) ?_
        simp; omega
    · refine Tells.neg h1 ?_
      refine Tells.to (Tells.now _) ?_
      simp; omega
end Go.Proofs.Ytgohpemgjladeaa.P
