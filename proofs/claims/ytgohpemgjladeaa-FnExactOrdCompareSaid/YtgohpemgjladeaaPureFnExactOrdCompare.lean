/- The program's OrdCompare tells what the reference's tells, for all rows: the law's pure statement. -/
import Derived.Test.YtgohpemgjladeaaP0
import Derived.Test.YtgohpemgjladeaaMath
import Derived.Test.YtgohpemgjladeaaPlawsFnExactOrdCompare
import Derived.Test.YtgohpemgjladeaaQC
import Derived.Test.YtgohpemgjladeaaQD
import Derived.Test.YtgohpemgjladeaaQM
namespace Go.Proofs.Ytgohpemgjladeaa.Pure
open OM Go.RowKit Go.Proofs.Ytgohpemgjladeaa.P
theorem FnExactOrdCompare : laws_FnExactOrdCompare.Pure := by
  intro a b h1 h2 h3 h4 h5 h6
  refine Tells.rounds (?_ : Tells (fun k => laws_FnExactOrdCompare.f k a b) true)
  by_cases h : (a.length : Int) > 1048576
  · exact Tells.pos h (Tells.now _)
  · refine Tells.neg h ?_
    by_cases g : (b.length : Int) > 1048576
    · exact Tells.pos g (Tells.now _)
    · refine Tells.neg g ?_
      refine Tells.bind (toIntS_ev (by omega)) ?_
      refine Tells.bind (toIntS_ev (by omega)) ?_
      refine Tells.bind (specOrdCompare_ev (by omega) (by omega)) ?_
      refine Tells.bind (toIntS_ev (by omega)) ?_
      refine Tells.bind (toIntS_ev (by omega)) ?_
      refine Tells.bind implOrdCompare_ev ?_
      refine Tells.pos rfl ?_
      refine Tells.bind (toIntS_ev (by omega)) ?_
      refine Tells.bind (eqIntS_ev (by omega)) ?_
      refine Tells.pos (by simp) ?_
      refine Tells.bind (toIntS_ev (by omega)) ?_
      refine Tells.bind (eqIntS_ev (by omega)) ?_
      exact Tells.pos (by simp) (Tells.now _)
end Go.Proofs.Ytgohpemgjladeaa.Pure
