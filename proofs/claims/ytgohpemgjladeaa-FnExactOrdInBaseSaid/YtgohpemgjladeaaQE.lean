/- The laws on functions that tell a row: what is marked stays, and both tell the same. -/
import Derived.Test.YtgohpemgjladeaaP0
import Derived.Test.YtgohpemgjladeaaMath
import Derived.Test.YtgohpemgjladeaaPlawseqIntS
import Derived.Test.YtgohpemgjladeaaPlawsmarkIntS
import Derived.Test.YtgohpemgjladeaaPlawsheldIntS
import Derived.Test.YtgohpemgjladeaaQM
namespace Go.Proofs.Ytgohpemgjladeaa.P
open OM Go.RowKit Go.Proofs.YtgohpemgjladeaaW.PrintWords Go.Proofs.YtgohpemgjladeaaW.PrintLast Go.Proofs.YtgohpemgjladeaaW.PrintMore
set_option linter.unusedVariables false

theorem one_list {r : List Int} {g f : Nat → Option (List Int)} (hr : (r.length : Int) ≤ 1000000) (hg : Tells g r) (hf : Tells f r) :
    Tells (fun k => (g k).bind fun t => ((f k).bind fun u => ((laws_eqIntS.f k u t).bind fun b => (if b = true then ((laws_markIntS.f k u 1).bind fun m => ((laws_heldIntS.f k m.2 1).bind fun h => (if h < 0 then (some false) else (if h = m.1 then ((f k).bind fun u' => ((laws_eqIntS.f k u' t).bind fun b' => (if b' = true then ((laws_heldIntS.f k m.2 1).bind fun h' => (if h' < 0 then (some false) else (if h' = m.1 then (some true) else (some false)))) else (some false)))) else (some false))))) else (some false))))) true := by
  refine Tells.bind hg ?_
  refine Tells.bind hf ?_
  refine Tells.bind (eqIntS_ev (by omega)) ?_
  refine Tells.pos (by simp) ?_
  refine Tells.bind (markIntS_ev (m := 1) (by omega) (by omega)) ?_
  refine Tells.bind (heldIntS_ev (n := r.length) (m := 1) (by omega) (by omega)) ?_
  refine Tells.neg (by omega) ?_
  refine Tells.pos rfl ?_
  refine Tells.bind hf ?_
  refine Tells.bind (eqIntS_ev (by omega)) ?_
  refine Tells.pos (by simp) ?_
  refine Tells.bind (heldIntS_ev (n := r.length) (m := 1) (by omega) (by omega)) ?_
  refine Tells.neg (by omega) ?_
  refine Tells.pos rfl ?_
  exact Tells.now _

end Go.Proofs.Ytgohpemgjladeaa.P
