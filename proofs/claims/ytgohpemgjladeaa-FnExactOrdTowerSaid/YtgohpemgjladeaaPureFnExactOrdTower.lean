/- The program's OrdTower tells what the reference's tells, for every number: the law's pure statement. -/
import Derived.Test.YtgohpemgjladeaaP0
import Derived.Test.YtgohpemgjladeaaMath
import Derived.Test.YtgohpemgjladeaaPlawsFnExactOrdTower
import Derived.Test.YtgohpemgjladeaaQE
import Derived.Test.YtgohpemgjladeaaQF
namespace Go.Proofs.Ytgohpemgjladeaa.Pure
open OM Go.RowKit Go.Proofs.Ytgohpemgjladeaa.P
theorem FnExactOrdTower : laws_FnExactOrdTower.Pure := by
  intro a _
  refine Tells.rounds (?_ : Tells (fun k => laws_FnExactOrdTower.f k a) true)
  have hl := towv_length a
  refine Tells.bind specOrdTower_ev ?_
  refine Tells.bind implOrdTower_ev ?_
  refine Tells.bind (eqIntS_ev (by omega)) ?_
  refine Tells.pos (by simp) ?_
  refine Tells.step (fun k => by rw [laws_FnExactOrdTower.j0]) ?_
  refine Tells.neg (by simp) ?_
  refine Tells.bind (markIntS_ev (m := 1) (by omega) (by omega)) ?_
  refine Tells.bind (heldIntS_ev (n := (towv a).1.length) (m := 1) (by omega) (by omega)) ?_
  refine Tells.neg (by omega) ?_
  refine Tells.pos rfl ?_
  refine Tells.bind implOrdTower_ev ?_
  refine Tells.bind (eqIntS_ev (by omega)) ?_
  refine Tells.pos (by simp) ?_
  refine Tells.step (fun k => by rw [laws_FnExactOrdTower.j1]) ?_
  refine Tells.neg (by simp) ?_
  refine Tells.bind (heldIntS_ev (n := (towv a).1.length) (m := 1) (by omega) (by omega)) ?_
  refine Tells.neg (by omega) ?_
  refine Tells.pos rfl ?_
  exact Tells.now _
end Go.Proofs.Ytgohpemgjladeaa.Pure
