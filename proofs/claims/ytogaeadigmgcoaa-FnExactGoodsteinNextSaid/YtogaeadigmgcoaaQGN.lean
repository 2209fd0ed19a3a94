/- The next number of a Goodstein sequence, as both tell it. -/
import Derived.Test.YtogaeadigmgcoaaP0
import Derived.Test.YtogaeadigmgcoaaMath
import Derived.Test.YtogaeadigmgcoaaPspecGoodsteinNext
import Derived.Test.YtogaeadigmgcoaaPimplGoodsteinNext
import Derived.Test.YtogaeadigmgcoaaQCB
namespace Go.Proofs.Ytogaeadigmgcoaa.P
open OM Go.RowKit Go.Proofs.YtogaeadigmgcoaaW.PrintWords Go.Proofs.YtogaeadigmgcoaaW.PrintLast Go.Proofs.YtogaeadigmgcoaaW.PrintMore
set_option linter.unusedVariables false

def nextOf (r : Int) : Int := if r < 0 then -1 else r - 1
theorem nextOf_neg {r : Int} (h : r < 0) : nextOf r = -1 := by unfold nextOf; rw [if_pos h]
theorem nextOf_pos {r : Int} (h : ¬ r < 0) : nextOf r = r - 1 := by unfold nextOf; rw [if_neg h]
theorem both_GNext_no {a b : Int} (h : ¬ (1 ≤ a ∧ 2 ≤ b ∧ b ≤ 89)) : Tells (fun k => spec_GoodsteinNext.f k a b) (-1) ∧ Tells (fun k => impl_GoodsteinNext.f k a b) (-1) := by
  have bad : Tells (fun k => impl_GoodsteinNext.j0 k a b true) (-1) := by
    refine Tells.step (fun k => by rw [impl_GoodsteinNext.j0]) ?_
    exact Tells.pos rfl (Tells.now _)
  constructor
  · by_cases h1 : a < 1
    · exact Tells.pos h1 (Tells.now _)
    · refine Tells.neg h1 ?_
      refine Tells.bind (Tells.const (l1In_eq b 2 89)) ?_
      exact Tells.neg (by rw [decide_eq_false (show ¬ (2 ≤ b ∧ b ≤ 89) by omega)]; simp) (Tells.now _)
  · by_cases h1 : a < 1
    · exact Tells.pos h1 bad
    · refine Tells.neg h1 ?_
      by_cases h2 : b < 2
      · exact Tells.pos h2 bad
      · refine Tells.neg h2 ?_
        rw [decide_eq_true (show b ≥ 90 by omega)]; exact bad
theorem both_GNext_yes {a b r : Int} (h : 1 ≤ a ∧ 2 ≤ b ∧ b ≤ 89) (hr : -1 ≤ r) (hr' : r ≤ 1000000000) (g1 : Tells (fun k => spec_ChangeBase.f k a b (b + 1)) r) (g2 : Tells (fun k => impl_ChangeBase.f k a b (b + 1)) r) :
    Tells (fun k => spec_GoodsteinNext.f k a b) (nextOf r) ∧ Tells (fun k => impl_GoodsteinNext.f k a b) (nextOf r) := by
  obtain ⟨h1, h2, h3⟩ := h
  have hw : wrap64 (b + 1) = b + 1 := wrap_id (by omega) (by omega)
  constructor
  · refine Tells.neg (by omega) ?_
    refine Tells.bind (Tells.const (l1In_eq b 2 89)) ?_
    refine Tells.pos (decide_eq_true (by omega)) ?_
    rw [hw]
    refine Tells.bind g1 ?_
    by_cases hn : r < 0
    · rw [nextOf_neg hn]; exact Tells.pos hn (Tells.now _)
    · rw [nextOf_pos hn]
      refine Tells.neg hn ?_
      refine Tells.bind g1 ?_
      rw [wrap_id (by omega) (by omega)]; exact Tells.now _
  · refine Tells.neg (by omega) ?_
    refine Tells.neg (by omega) ?_
    rw [decide_eq_false (show ¬ b ≥ 90 by omega)]
    refine Tells.step (fun k => by rw [impl_GoodsteinNext.j0]) ?_
    refine Tells.neg (by simp) ?_
    rw [hw]
    refine Tells.bind g2 ?_
    by_cases hn : r < 0
    · rw [nextOf_neg hn]; exact Tells.pos hn (Tells.now _)
    · rw [nextOf_pos hn]
      refine Tells.neg hn ?_
      rw [wrap_id (by omega) (by omega)]; exact Tells.now _
theorem both_GNext (a b : Int) : ∃ r, -1 ≤ r ∧ r ≤ 1000000000 ∧ Tells (fun k => spec_GoodsteinNext.f k a b) r ∧ Tells (fun k => impl_GoodsteinNext.f k a b) r := by
  by_cases h : 1 ≤ a ∧ 2 ≤ b ∧ b ≤ 89
  · obtain ⟨r, h1, h2, g1, g2⟩ := both_ChangeBase a b (b + 1)
    obtain ⟨e1, e2⟩ := both_GNext_yes h h1 h2 g1 g2
    refine ⟨nextOf r, ?_, ?_, e1, e2⟩
    · unfold nextOf; split <;> omega
    · unfold nextOf; split <;> omega
  · exact ⟨-1, by omega, by omega, (both_GNext_no h).1, (both_GNext_no h).2⟩
end Go.Proofs.Ytogaeadigmgcoaa.P
