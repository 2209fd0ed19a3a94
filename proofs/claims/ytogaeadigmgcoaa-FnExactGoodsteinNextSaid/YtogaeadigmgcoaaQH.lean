/- The ordinal of a number in a base, as both tell it: with what is told no longer than 60. -/
import Derived.Test.YtogaeadigmgcoaaP0
import Derived.Test.YtogaeadigmgcoaaMath
import Derived.Test.YtogaeadigmgcoaaPspecOrdInBase
import Derived.Test.YtogaeadigmgcoaaPimplOrdInBase
import Derived.Test.YtogaeadigmgcoaaPimpltold
import Derived.Test.YtogaeadigmgcoaaQG
namespace Go.Proofs.Ytogaeadigmgcoaa.P
open OM Go.RowKit Go.Proofs.YtogaeadigmgcoaaW.PrintWords Go.Proofs.YtogaeadigmgcoaaW.PrintLast Go.Proofs.YtogaeadigmgcoaaW.PrintMore
set_option linter.unusedVariables false
/-- the row that is told, or none -/
def fit (x : O) : List Int := if size x ≤ 60 then row x else []
theorem fit_length (x : O) : ((fit x).length : Int) ≤ 60 := by
  unfold fit
  split
  · rw [row_length]; assumption
  · simp
theorem toldv_fit {x : O} (h : most x ≤ 9999) : (toldv x).1 = fit x := by
  unfold toldv fit
  by_cases g : size x ≤ 60
  · rw [if_pos ⟨g, h⟩, if_pos g]
  · rw [if_neg (by omega), if_neg g]
def InB (b n : Int) : Prop := 0 ≤ n ∧ n ≤ 1000000000 ∧ 2 ≤ b ∧ b ≤ 90
theorem specInBase_no {a b : Int} (h : ¬ InB b a) : Tells (fun k => spec_OrdInBase.f k a b) [] := by
  unfold InB at h
  refine Tells.bind (Tells.const (l1In_eq a 0 1000000000)) ?_
  by_cases h1 : 0 ≤ a ∧ a ≤ 1000000000
  · refine Tells.pos (decide_eq_true h1) ?_
    refine Tells.bind (Tells.const (l1In_eq b 2 90)) ?_
    exact Tells.neg (by simp; omega) (Tells.now _)
  · exact Tells.neg (by simp; omega) (Tells.now _)
theorem specInBase_ev {a b : Int} {x : O} (h : InB b a) (hx : Tells (fun k => spec_l4Ord.f k a b) (row x)) : Tells (fun k => spec_OrdInBase.f k a b) (fit x) := by
  obtain ⟨h1, h2, h3, h4⟩ := h
  refine Tells.bind (Tells.const (l1In_eq a 0 1000000000)) ?_
  refine Tells.pos (by simp; omega) ?_
  refine Tells.bind (Tells.const (l1In_eq b 2 90)) ?_
  refine Tells.pos (by simp; omega) ?_
  refine Tells.bind hx ?_
  have hl := row_length x
  unfold fit
  by_cases g : size x ≤ 60
  · rw [if_pos g]
    refine Tells.neg (by omega) ?_
    exact Tells.bind hx (Tells.now _)
  · rw [if_neg g]
    exact Tells.pos (by omega) (Tells.now _)
theorem implInBase_no {a b : Int} (h : ¬ InB b a) : Tells (fun k => impl_OrdInBase.f k a b) [] := by
  unfold InB at h
  have bad : Tells (fun k => impl_OrdInBase.j0 k a b true) [] := by
    refine Tells.step (fun k => by rw [impl_OrdInBase.j0]) ?_
    exact Tells.pos rfl (Tells.now _)
  by_cases h1 : a < 0
  · exact Tells.pos h1 bad
  · refine Tells.neg h1 ?_
    by_cases h2 : a > 1000000000
    · exact Tells.pos h2 bad
    · refine Tells.neg h2 ?_
      by_cases h3 : b < 2
      · exact Tells.pos h3 bad
      · refine Tells.neg h3 ?_
        rw [decide_eq_true (show b > 90 by omega)]; exact bad
theorem implInBase_ev {a b : Int} {x : O} (h : InB b a) (hz : size x ≤ 10000000000) (hm : most x ≤ 9999) (hx : Tells (fun k => impl_inBase.f k a b) x) : Tells (fun k => impl_OrdInBase.f k a b) (fit x) := by
  obtain ⟨h1, h2, h3, h4⟩ := h
  refine Tells.neg (by omega) ?_
  refine Tells.neg (by omega) ?_
  refine Tells.neg (by omega) ?_
  rw [decide_eq_false (show ¬ b > 90 by omega)]
  refine Tells.step (fun k => by rw [impl_OrdInBase.j0]) ?_
  refine Tells.neg (by simp) ?_
  refine Tells.bind hx ?_
  refine Tells.bind (told_ev hz) ?_
  exact Tells.to (Tells.now _) (toldv_fit hm)
theorem both_OrdInBase' {a b : Int} (h : InB b a) : ∃ x, IB b a x ∧ Tells (fun k => spec_OrdInBase.f k a b) (fit x) ∧ Tells (fun k => impl_OrdInBase.f k a b) (fit x) := by
  obtain ⟨h1, h2, h3, h4⟩ := h
  obtain ⟨x, hx, g1, g2⟩ := both_inBase h3 h4 h1 h2
  have := hx.size
  have := hx.most
  exact ⟨x, hx, specInBase_ev ⟨h1, h2, h3, h4⟩ g2, implInBase_ev ⟨h1, h2, h3, h4⟩ (by omega) (by omega) g1⟩
theorem both_OrdInBase (a b : Int) : ∃ r : List Int, (r.length : Int) ≤ 60 ∧ Tells (fun k => spec_OrdInBase.f k a b) r ∧ Tells (fun k => impl_OrdInBase.f k a b) r := by
  by_cases h : InB b a
  · obtain ⟨h1, h2, h3, h4⟩ := h
    obtain ⟨x, hx, g1, g2⟩ := both_inBase h3 h4 h1 h2
    have := hx.size
    have := hx.most
    exact ⟨fit x, fit_length x, specInBase_ev ⟨h1, h2, h3, h4⟩ g2, implInBase_ev ⟨h1, h2, h3, h4⟩ (by omega) (by omega) g1⟩
  · exact ⟨[], by simp, specInBase_no h, implInBase_no h⟩
end Go.Proofs.Ytogaeadigmgcoaa.P
