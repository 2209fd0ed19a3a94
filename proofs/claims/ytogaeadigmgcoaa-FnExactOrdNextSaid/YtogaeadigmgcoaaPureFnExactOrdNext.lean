/- The program's OrdNext tells what the reference's tells, for every row: the law's pure statement. -/
import Derived.Test.YtogaeadigmgcoaaP0
import Derived.Test.YtogaeadigmgcoaaMath
import Derived.Test.YtogaeadigmgcoaaPlawsFnExactOrdNext
import Derived.Test.YtogaeadigmgcoaaQM
import Derived.Test.YtogaeadigmgcoaaQX
namespace Go.Proofs.Ytogaeadigmgcoaa.Pure
open OM Go.RowKit Go.Proofs.Ytogaeadigmgcoaa.P
theorem FnExactOrdNext : laws_FnExactOrdNext.Pure := by
  intro l h1 h2 h3
  refine Tells.rounds (?_ : Tells (fun k => laws_FnExactOrdNext.f k l) true)
  have hv := nextv_length l
  by_cases h : (l.length : Int) > 1048576
  · exact Tells.pos h (Tells.now _)
  · refine Tells.neg h ?_
    refine Tells.bind (toIntS_ev (by omega)) ?_
    refine Tells.bind (specOrdNext_ev (by omega)) ?_
    refine Tells.bind (toIntS_ev (by omega)) ?_
    refine Tells.bind implOrdNext_ev ?_
    refine Tells.bind (eqIntS_ev (by omega)) ?_
    refine Tells.pos (by simp) ?_
    refine Tells.step (fun k => by rw [laws_FnExactOrdNext.j0]) ?_
    refine Tells.neg (by simp) ?_
    refine Tells.bind (toIntS_ev (by omega)) ?_
    refine Tells.bind (eqIntS_ev (by omega)) ?_
    refine Tells.pos (by simp) ?_
    refine Tells.bind (markIntS_ev (m := 1) (by omega) (by omega)) ?_
    refine Tells.neg (by omega) ?_
    refine Tells.bind (eqIntS_ev (by omega)) ?_
    refine Tells.pos (by simp) ?_
    refine Tells.step (fun k => by rw [laws_FnExactOrdNext.j1]) ?_
    refine Tells.neg (by simp) ?_
    refine Tells.bind (markIntS_ev (m := 1) (by omega) (by omega)) ?_
    refine Tells.bind (heldIntS_ev (n := (nextv l).1.length) (m := 1) (by omega) (by omega)) ?_
    refine Tells.neg (by omega) ?_
    refine Tells.pos rfl ?_
    refine Tells.bind (toIntS_ev (by omega)) ?_
    refine Tells.bind implOrdNext_ev ?_
    refine Tells.bind (eqIntS_ev (by omega)) ?_
    refine Tells.pos (by simp) ?_
    refine Tells.step (fun k => by rw [laws_FnExactOrdNext.j2]) ?_
    refine Tells.neg (by simp) ?_
    refine Tells.bind (heldIntS_ev (n := (nextv l).1.length) (m := 1) (by omega) (by omega)) ?_
    refine Tells.neg (by omega) ?_
    refine Tells.pos rfl ?_
    exact Tells.now _
end Go.Proofs.Ytogaeadigmgcoaa.Pure
