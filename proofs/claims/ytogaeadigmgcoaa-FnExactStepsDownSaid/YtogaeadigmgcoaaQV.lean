/- Valid rows, and what is valid of an ordinal's row: the reference's check and the program's. -/
import Derived.Test.YtogaeadigmgcoaaP0
import Derived.Test.YtogaeadigmgcoaaMath
import Derived.Test.YtogaeadigmgcoaaPspecOrdValid
import Derived.Test.YtogaeadigmgcoaaPimplordOf
import Derived.Test.YtogaeadigmgcoaaPimpltold
import Derived.Test.YtogaeadigmgcoaaPspecl1Make
import Derived.Test.YtogaeadigmgcoaaQC
namespace Go.Proofs.Ytogaeadigmgcoaa.P
open OM Go.RowKit Go.Proofs.YtogaeadigmgcoaaW.PrintWords Go.Proofs.YtogaeadigmgcoaaW.PrintLast Go.Proofs.YtogaeadigmgcoaaW.PrintMore
set_option linter.unusedVariables false

theorem ordv_some {l : List Int} {x : O} (h : ordOf l = some x) : ordv l = (x, true) := by unfold ordv; rw [h]
theorem ordv_none {l : List Int} (h : ordOf l = none) : (ordv l).2 = false := by unfold ordv; rw [h]
theorem valid_ev {l : List Int} {x : O} (h : ordOf l = some x) : Tells (fun k => spec_OrdValid.f k l) true := by
  have h1 := ordOf_some h
  have h2 := row_length x
  have := @ordValid_ev l (by rw [h1.1, h2]; have := h1.2.2.2; omega)
  rw [h] at this; exact this
theorem invalid_ev {l : List Int} (hl : (l.length : Int) ≤ 100000000) (h : ordOf l = none) : Tells (fun k => spec_OrdValid.f k l) false := by
  have := @ordValid_ev l hl
  rw [h] at this; exact this
theorem ord_ev {l : List Int} {x : O} (h : ordOf l = some x) : Tells (fun k => impl_ordOf.f k l) (x, true) := by
  have := @ordOf_ev l
  rw [ordv_some h] at this; exact this
theorem es_zero (c : Int) (e r : O) : rd_L1 (es (⟨c, e⟩ :: r)) 0 = row e := rfl
theorem cs_zero (c : Int) (e r : O) : rd (cs (⟨c, e⟩ :: r)) 0 = c := rfl
theorem rdT_zero (t : Tm) (r : O) : rd_T65 (t :: r) 0 = t := rfl
theorem row_one {x : O} : ((row x).length : Int) = 1 ↔ x = [] := by
  rw [row_length]
  cases x with
  | nil => rw [size_nil]; simp
  | cons t r =>
    obtain ⟨c, e⟩ := t
    rw [size_cons]
    have := size_pos e
    have := size_pos r
    constructor
    · intro h; omega
    · intro h; cases h
/-- the reference's check of an ordinal's row -/
theorem validRow_ev {x : O} (hx : NF x) (hz : size x ≤ 100000000) : Tells (fun k => spec_OrdValid.f k (row x)) (decide (size x ≤ 60 ∧ most x ≤ 9999)) := by
  have hl := row_length x
  have := @ordValid_ev (row x) (by omega)
  refine Tells.to this ?_
  by_cases h : size x ≤ 60 ∧ most x ≤ 9999
  · rw [ordOf_row ⟨hx, h.2, h.1⟩, decide_eq_true h]; rfl
  · rcases ordOf_row' x with g | ⟨g, _⟩
    · have := (ordOf_some g).2
      exact absurd ⟨this.2.2, this.2.1⟩ h
    · rw [g, decide_eq_false h]; rfl
theorem toldv_length (x : O) : ((toldv x).1.length : Int) ≤ 60 := by
  unfold toldv
  split
  · show ((row x).length : Int) ≤ 60
    rw [row_length]; omega
  · simp
theorem toldv_true {x : O} (h : size x ≤ 60 ∧ most x ≤ 9999) : toldv x = (row x, true) := by unfold toldv; rw [if_pos h]
theorem toldv_false {x : O} (h : ¬ (size x ≤ 60 ∧ most x ≤ 9999)) : toldv x = ([], false) := by unfold toldv; rw [if_neg h]
end Go.Proofs.Ytogaeadigmgcoaa.P
