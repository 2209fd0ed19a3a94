/- Numbers as ordinals, as both tell them. -/
import Derived.Test.YtgohpemgjladeaaP0
import Derived.Test.YtgohpemgjladeaaMath
import Derived.Test.YtgohpemgjladeaaPspecOrdOf
import Derived.Test.YtgohpemgjladeaaPimplOrdOf
import Derived.Test.YtgohpemgjladeaaPimplnumber
import Derived.Test.YtgohpemgjladeaaPspecl1In
import Derived.Test.YtgohpemgjladeaaPimplrowOf
import Derived.Test.YtgohpemgjladeaaQA
import Derived.Test.YtgohpemgjladeaaQB
namespace Go.Proofs.Ytgohpemgjladeaa.P
open OM Go.RowKit Go.Proofs.YtgohpemgjladeaaW.PrintWords Go.Proofs.YtgohpemgjladeaaW.PrintLast Go.Proofs.YtgohpemgjladeaaW.PrintMore
set_option linter.unusedVariables false
/-! #### numbers -/
def num (c : Int) : O := if c = 0 then [] else [⟨c, []⟩]
theorem row_num_zero : row (num 0) = [0] := by unfold num; rw [if_pos rfl, row_nil]
theorem row_num {c : Int} (h : c ≠ 0) : row (num c) = [1, c, 0] := by unfold num; rw [if_neg h]; unfold row; rw [flat_cons, row_nil, flat_nil]; rfl
theorem size_num (c : Int) : size (num c) ≤ 3 := by unfold num; split <;> simp only [size_cons, size_nil] <;> omega
theorem number_eq (c : Int) : impl_number.f c = some (num c) := by unfold impl_number.f num; split <;> rfl
def ofv (a : Int) : List Int := if 0 ≤ a ∧ a ≤ 9999 then row (num a) else []
theorem ofv_length (a : Int) : ((ofv a).length : Int) ≤ 3 := by
  unfold ofv
  split
  · rw [row_length]; exact size_num a
  · simp
theorem specOrdOf_eq (a : Int) : spec_OrdOf.f a = some (ofv a) := by
  unfold spec_OrdOf.f ofv
  rw [l1In_eq]
  show (if decide (0 ≤ a ∧ a ≤ 9999) = true then _ else _) = _
  by_cases h : 0 ≤ a ∧ a ≤ 9999
  · rw [if_pos (decide_eq_true h), if_pos h]
    by_cases z : a = 0
    · subst z; rw [if_pos rfl, row_num_zero]
    · rw [if_neg z, row_num z]
  · rw [if_neg (by simp; omega), if_neg h]
theorem implOrdOf_ev {a : Int} : Tells (fun k => impl_OrdOf.f k a) (ofv a) := by
  have bad : ¬ (0 ≤ a ∧ a ≤ 9999) → Tells (fun k => impl_OrdOf.j0 k a true) (ofv a) := by
    intro h
    refine Tells.step (fun k => by rw [impl_OrdOf.j0]) ?_
    unfold ofv; rw [if_neg h]
    exact Tells.pos rfl (Tells.now _)
  by_cases h1 : a < 0
  · exact Tells.pos h1 (bad (by omega))
  · refine Tells.neg h1 ?_
    by_cases h2 : a > 9999
    · rw [decide_eq_true h2]; exact bad (by omega)
    · rw [decide_eq_false h2]
      refine Tells.step (fun k => by rw [impl_OrdOf.j0]) ?_
      refine Tells.neg (by simp) ?_
      refine Tells.bind (Tells.const (number_eq a)) ?_
      have := size_num a
      unfold ofv; rw [if_pos (by omega)]
      exact Tells.bind (rowOf_ev (by omega)) (Tells.now _)
end Go.Proofs.Ytgohpemgjladeaa.P
