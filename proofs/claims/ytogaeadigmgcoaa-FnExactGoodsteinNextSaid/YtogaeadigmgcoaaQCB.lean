/- Numbers moved from one base to another, as both tell them. -/
import Derived.Test.YtogaeadigmgcoaaP0
import Derived.Test.YtogaeadigmgcoaaMath
import Derived.Test.YtogaeadigmgcoaaPspecChangeBase
import Derived.Test.YtogaeadigmgcoaaPimplChangeBase
import Derived.Test.YtogaeadigmgcoaaPspecOrdInBase
import Derived.Test.YtogaeadigmgcoaaPimplOrdInBase
import Derived.Test.YtogaeadigmgcoaaQH
import Derived.Test.YtogaeadigmgcoaaQL
namespace Go.Proofs.Ytogaeadigmgcoaa.P
open OM Go.RowKit Go.Proofs.YtogaeadigmgcoaaW.PrintWords Go.Proofs.YtogaeadigmgcoaaW.PrintLast Go.Proofs.YtogaeadigmgcoaaW.PrintMore
set_option linter.unusedVariables false

theorem IB_vd {b n : Int} {x : O} (h : IB b n x) (hb : b ≤ 90) (hz : size x ≤ 60) : Vd x := ⟨h.nf, by have := h.most; omega, hz⟩
/-- the value of a fitting ordinal for another base -/
def changev (c : Int) (x : O) : Int := if size x ≤ 60 ∧ 2 ≤ c ∧ c ≤ 90 then slowv c x else -1
theorem slowv_range {n : Int} {x : O} (hn : 1 ≤ n) (h : NF x) : -1 ≤ slowv n x ∧ slowv n x ≤ 1000000000 := by
  have := val_nonneg hn h
  unfold slowv
  split <;> omega
theorem both_ChangeBase' {a b : Int} (h : InB b a) : ∃ x, IB b a x ∧ Tells (fun k => impl_OrdInBase.f k a b) (fit x) ∧ ∀ c : Int, Tells (fun k => spec_ChangeBase.f k a b c) (changev c x) ∧ Tells (fun k => impl_ChangeBase.f k a b c) (changev c x) := by
  obtain ⟨x, hx, g1, g2⟩ := both_OrdInBase' h
  obtain ⟨h1, h2, h3, h4⟩ := h
  have hl := row_length x
  have hp := size_pos x
  refine ⟨x, hx, g2, fun c => ⟨?_, ?_⟩⟩
  · refine Tells.bind g1 ?_
    unfold fit changev
    by_cases hz : size x ≤ 60
    · rw [if_pos hz]
      refine Tells.neg (by omega) ?_
      refine Tells.bind (Tells.const (l1In_eq c 2 90)) ?_
      by_cases hc : 2 ≤ c ∧ c ≤ 90
      · rw [if_pos ⟨hz, hc⟩]
        refine Tells.pos (decide_eq_true hc) ?_
        exact Tells.bind (specValue_ev (by omega) (by omega) (IB_vd hx h4 hz)) (Tells.now _)
      · rw [if_neg (fun h => hc h.2)]
        exact Tells.neg (by rw [decide_eq_false hc]; simp) (Tells.now _)
    · rw [if_neg hz, if_neg (fun h => hz h.1)]
      exact Tells.pos rfl (Tells.now _)
  · refine Tells.bind g2 ?_
    unfold fit changev
    by_cases hz : size x ≤ 60
    · rw [if_pos hz]
      refine Tells.neg (by omega) ?_
      by_cases hc1 : c < 2
      · rw [if_neg (by omega)]; exact Tells.pos hc1 (Tells.now _)
      · refine Tells.neg hc1 ?_
        by_cases hc2 : c > 90
        · rw [if_neg (by omega)]; exact Tells.pos hc2 (Tells.now _)
        · refine Tells.neg hc2 ?_
          rw [if_pos (by omega)]
          have := @implSlowValue_ev (row x) c
          rw [slowValv_some (ordOf_row (IB_vd hx h4 hz)), if_pos (by omega)] at this
          exact this
    · rw [if_neg hz, if_neg (fun h => hz h.1)]
      exact Tells.pos rfl (Tells.now _)
theorem both_ChangeBase_no {a b c : Int} (h : ¬ InB b a) : Tells (fun k => spec_ChangeBase.f k a b c) (-1) ∧ Tells (fun k => impl_ChangeBase.f k a b c) (-1) :=
  ⟨Tells.bind (specInBase_no h) (Tells.pos rfl (Tells.now _)), Tells.bind (implInBase_no h) (Tells.pos rfl (Tells.now _))⟩
theorem both_ChangeBase (a b c : Int) : ∃ r, -1 ≤ r ∧ r ≤ 1000000000 ∧ Tells (fun k => spec_ChangeBase.f k a b c) r ∧ Tells (fun k => impl_ChangeBase.f k a b c) r := by
  by_cases h : InB b a
  · obtain ⟨x, hx, _, g⟩ := both_ChangeBase' h
    have hr : -1 ≤ changev c x ∧ changev c x ≤ 1000000000 := by
      unfold changev
      split
      · next h => exact slowv_range (by omega) hx.nf
      · omega
    exact ⟨_, hr.1, hr.2, (g c).1, (g c).2⟩
  · exact ⟨-1, by omega, by omega, (both_ChangeBase_no h).1, (both_ChangeBase_no h).2⟩
end Go.Proofs.Ytogaeadigmgcoaa.P
