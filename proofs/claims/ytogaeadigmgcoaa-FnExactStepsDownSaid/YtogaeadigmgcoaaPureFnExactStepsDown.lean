/- The program's StepsDown tells what the reference's tells, for every row and number: the law's pure statement. -/
import Derived.Test.YtogaeadigmgcoaaP0
import Derived.Test.YtogaeadigmgcoaaMath
import Derived.Test.YtogaeadigmgcoaaPlawsFnExactStepsDown
import Derived.Test.YtogaeadigmgcoaaQM
import Derived.Test.YtogaeadigmgcoaaQSD
namespace Go.Proofs.Ytogaeadigmgcoaa.Pure
open OM Go.RowKit Go.Proofs.Ytogaeadigmgcoaa.P
theorem FnExactStepsDown : laws_FnExactStepsDown.Pure := by
  intro l n h1 h2 h3 h4
  refine Tells.rounds (?_ : Tells (fun k => laws_FnExactStepsDown.f k l n) true)
  by_cases h : (l.length : Int) > 1048576
  · exact Tells.pos h (Tells.now _)
  · refine Tells.neg h ?_
    refine Tells.bind (toIntS_ev (by omega)) ?_
    refine Tells.bind (specStepsDown_ev (by omega)) ?_
    refine Tells.bind (toIntS_ev (by omega)) ?_
    refine Tells.bind implStepsDown_ev ?_
    refine Tells.pos rfl ?_
    refine Tells.step (fun k => by rw [laws_FnExactStepsDown.j0]) ?_
    refine Tells.neg (by simp) ?_
    refine Tells.bind (toIntS_ev (by omega)) ?_
    refine Tells.bind (eqIntS_ev (by omega)) ?_
    exact Tells.pos (by simp) (Tells.now _)
end Go.Proofs.Ytogaeadigmgcoaa.Pure
