/- The program's OrdKind tells what the reference's tells, for every row: the law's pure statement. -/
import Derived.Test.YtogaeadigmgcoaaP0
import Derived.Test.YtogaeadigmgcoaaMath
import Derived.Test.YtogaeadigmgcoaaPlawsFnExactOrdKind
import Derived.Test.YtogaeadigmgcoaaQM
import Derived.Test.YtogaeadigmgcoaaQK
namespace Go.Proofs.Ytogaeadigmgcoaa.Pure
open OM Go.RowKit Go.Proofs.Ytogaeadigmgcoaa.P
theorem FnExactOrdKind : laws_FnExactOrdKind.Pure := by
  intro l h1 h2 h3
  refine Tells.rounds (?_ : Tells (fun k => laws_FnExactOrdKind.f k l) true)
  by_cases h : (l.length : Int) > 1048576
  · exact Tells.pos h (Tells.now _)
  · refine Tells.neg h ?_
    refine Tells.bind (toIntS_ev (by omega)) ?_
    refine Tells.bind (specOrdKind_ev (by omega)) ?_
    refine Tells.bind (toIntS_ev (by omega)) ?_
    refine Tells.bind implOrdKind_ev ?_
    refine Tells.pos rfl ?_
    refine Tells.bind (toIntS_ev (by omega)) ?_
    refine Tells.bind (eqIntS_ev (by omega)) ?_
    exact Tells.pos (by simp) (Tells.now _)
end Go.Proofs.Ytogaeadigmgcoaa.Pure
