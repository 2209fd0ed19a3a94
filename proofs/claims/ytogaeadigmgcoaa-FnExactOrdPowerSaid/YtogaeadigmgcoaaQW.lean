/- Powers and the next ordinal, as both tell them. -/
import Derived.Test.YtogaeadigmgcoaaP0
import Derived.Test.YtogaeadigmgcoaaMath
import Derived.Test.YtogaeadigmgcoaaPspecOrdPower
import Derived.Test.YtogaeadigmgcoaaPimplOrdPower
import Derived.Test.YtogaeadigmgcoaaPimplpower
import Derived.Test.YtogaeadigmgcoaaQV
namespace Go.Proofs.Ytogaeadigmgcoaa.P
open OM Go.RowKit Go.Proofs.YtogaeadigmgcoaaW.PrintWords Go.Proofs.YtogaeadigmgcoaaW.PrintLast Go.Proofs.YtogaeadigmgcoaaW.PrintMore
set_option linter.unusedVariables false

theorem row_power (x : O) : row [⟨1, x⟩] = [1, 1] ++ row x := by unfold row; rw [flat_cons, flat_nil]; simp [row]
theorem size_power (x : O) : size [(⟨1, x⟩ : Tm)] = size x + 2 := by rw [size_cons, size_nil]; omega
theorem most_power (x : O) : most [(⟨1, x⟩ : Tm)] = max 1 (most x) := by rw [most_cons, most_nil]; have := most_pos x; omega
theorem NF_power {x : O} (h : NF x) : NF [⟨1, x⟩] := NF_cons.2 ⟨by omega, h, NF_nil, trivial⟩
def powerv (a : List Int) : List Int × Bool := match ordOf a with
  | some x => toldv [⟨1, x⟩]
  | none => ([], false)
theorem powerv_some {l : List Int} {x : O} (h : ordOf l = some x) : powerv l = toldv [⟨1, x⟩] := by unfold powerv; rw [h]
theorem powerv_none {l : List Int} (h : ordOf l = none) : powerv l = ([], false) := by unfold powerv; rw [h]
theorem powerv_length (a : List Int) : ((powerv a).1.length : Int) ≤ 60 := by
  cases h : ordOf a with
  | none => rw [powerv_none h]; simp
  | some x => rw [powerv_some h]; exact toldv_length _
theorem specOrdPower_ev {a : List Int} (ha : (a.length : Int) ≤ 10000000) : Tells (fun k => spec_OrdPower.f k a) (powerv a) := by
  refine Tells.sbind ?_
  refine Tells.pos (by simp <;> omega) ?_
  refine Tells.sbind ?_
  cases h : ordOf a with
  | none =>
    rw [powerv_none h]
    refine Tells.bind (invalid_ev (by omega) h) ?_
    exact Tells.neg (by simp) (Tells.now _)
  | some x =>
    rw [powerv_some h]
    refine Tells.bind (valid_ev h) ?_
    refine Tells.pos rfl ?_
    obtain ⟨h1, h2⟩ := ordOf_some h
    have hz := h2.size
    have hp := size_power x
    rw [h1, ← row_power]
    refine Tells.bind (validRow_ev (NF_power h2.1) (by omega)) ?_
    by_cases g : size [(⟨1, x⟩ : Tm)] ≤ 60 ∧ most [(⟨1, x⟩ : Tm)] ≤ 9999
    · rw [toldv_true g]
      exact Tells.pos (decide_eq_true g) (Tells.now _)
    · rw [toldv_false g]
      exact Tells.neg (by rw [decide_eq_false g]; simp) (Tells.now _)
theorem implOrdPower_ev {a : List Int} : Tells (fun k => impl_OrdPower.f k a) (powerv a) := by
  refine Tells.bind ordOf_ev ?_
  cases h : ordOf a with
  | none => rw [powerv_none h]; exact Tells.neg (by rw [ordv_none h]; simp) (Tells.now _)
  | some x =>
    rw [ordv_some h, powerv_some h]
    refine Tells.pos rfl ?_
    have hz := (ordOf_some h).2.size
    have hp := size_power x
    refine Tells.bind (Tells.const (rfl : impl_power.f x = some [⟨1, x⟩])) ?_
    exact Tells.bind (told_ev (by omega)) (Tells.now _)
end Go.Proofs.Ytogaeadigmgcoaa.P
