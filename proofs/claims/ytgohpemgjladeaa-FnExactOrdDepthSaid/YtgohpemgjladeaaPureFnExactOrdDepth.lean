/- The program's OrdDepth tells what the reference's tells, for every row: the law's pure statement. -/
import Derived.Test.YtgohpemgjladeaaP0
import Derived.Test.YtgohpemgjladeaaMath
import Derived.Test.YtgohpemgjladeaaPlawsFnExactOrdDepth
import Derived.Test.YtgohpemgjladeaaQC
import Derived.Test.YtgohpemgjladeaaQD
import Derived.Test.YtgohpemgjladeaaQM
namespace Go.Proofs.Ytgohpemgjladeaa.Pure
open OM Go.RowKit Go.Proofs.Ytgohpemgjladeaa.P
theorem FnExactOrdDepth : laws_FnExactOrdDepth.Pure := by
  intro l h1 h2 h3
  refine Tells.rounds (?_ : Tells (fun k => laws_FnExactOrdDepth.f k l) true)
  by_cases h : (l.length : Int) > 1048576
  · exact Tells.pos h (Tells.now _)
  · refine Tells.neg h ?_
    refine Tells.bind (toIntS_ev (by omega)) ?_
    refine Tells.bind (specOrdDepth_ev (by omega)) ?_
    refine Tells.bind (toIntS_ev (by omega)) ?_
    refine Tells.bind implOrdDepth_ev ?_
    refine Tells.pos rfl ?_
    refine Tells.bind (toIntS_ev (by omega)) ?_
    refine Tells.bind (eqIntS_ev (by omega)) ?_
    exact Tells.pos (by simp) (Tells.now _)
end Go.Proofs.Ytgohpemgjladeaa.Pure
