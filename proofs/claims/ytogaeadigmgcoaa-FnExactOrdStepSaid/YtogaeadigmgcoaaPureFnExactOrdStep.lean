/- The program's OrdStep tells what the reference's tells, for every row and number: the law's pure statement. -/
import Derived.Test.YtogaeadigmgcoaaP0
import Derived.Test.YtogaeadigmgcoaaMath
import Derived.Test.YtogaeadigmgcoaaPlawsFnExactOrdStep
import Derived.Test.YtogaeadigmgcoaaQM
import Derived.Test.YtogaeadigmgcoaaQZ
namespace Go.Proofs.Ytogaeadigmgcoaa.Pure
open OM Go.RowKit Go.Proofs.Ytogaeadigmgcoaa.P
theorem FnExactOrdStep : laws_FnExactOrdStep.Pure := by
  intro l n h1 h2 h3 h4
  refine Tells.rounds (?_ : Tells (fun k => laws_FnExactOrdStep.f k l n) true)
  have hv := stepv_length l n
  by_cases h : (l.length : Int) > 1048576
  · exact Tells.pos h (Tells.now _)
  · refine Tells.neg h ?_
    refine Tells.bind (toIntS_ev (by omega)) ?_
    refine Tells.bind (specOrdStep_ev (by omega)) ?_
    refine Tells.bind (toIntS_ev (by omega)) ?_
    refine Tells.bind implOrdStep_ev ?_
    refine Tells.bind (eqIntS_ev (by omega)) ?_
    refine Tells.pos (by simp) ?_
    refine Tells.step (fun k => by rw [laws_FnExactOrdStep.j0]) ?_
    refine Tells.neg (by simp) ?_
    refine Tells.bind (toIntS_ev (by omega)) ?_
    refine Tells.bind (eqIntS_ev (by omega)) ?_
    refine Tells.pos (by simp) ?_
    refine Tells.bind (markIntS_ev (m := 1) (by omega) (by omega)) ?_
    refine Tells.neg (by omega) ?_
    refine Tells.bind (eqIntS_ev (by omega)) ?_
    refine Tells.pos (by simp) ?_
    refine Tells.step (fun k => by rw [laws_FnExactOrdStep.j1]) ?_
    refine Tells.neg (by simp) ?_
    refine Tells.bind (markIntS_ev (m := 1) (by omega) (by omega)) ?_
    refine Tells.bind (heldIntS_ev (n := (stepv l n).1.length) (m := 1) (by omega) (by omega)) ?_
    refine Tells.neg (by omega) ?_
    refine Tells.pos rfl ?_
    refine Tells.bind (toIntS_ev (by omega)) ?_
    refine Tells.bind implOrdStep_ev ?_
    refine Tells.bind (eqIntS_ev (by omega)) ?_
    refine Tells.pos (by simp) ?_
    refine Tells.step (fun k => by rw [laws_FnExactOrdStep.j2]) ?_
    refine Tells.neg (by simp) ?_
    refine Tells.bind (heldIntS_ev (n := (stepv l n).1.length) (m := 1) (by omega) (by omega)) ?_
    refine Tells.neg (by omega) ?_
    refine Tells.pos rfl ?_
    exact Tells.now _
end Go.Proofs.Ytogaeadigmgcoaa.Pure
