/- The program's OrdBefore tells what the reference's tells, for every row: the law's pure statement. -/
import Derived.Test.YtogaeadigmgcoaaP0
import Derived.Test.YtogaeadigmgcoaaMath
import Derived.Test.YtogaeadigmgcoaaPlawsFnExactOrdBefore
import Derived.Test.YtogaeadigmgcoaaQM
import Derived.Test.YtogaeadigmgcoaaQY
namespace Go.Proofs.Ytogaeadigmgcoaa.Pure
open OM Go.RowKit Go.Proofs.Ytogaeadigmgcoaa.P
theorem FnExactOrdBefore : laws_FnExactOrdBefore.Pure := by
  intro l h1 h2 h3
  refine Tells.rounds (?_ : Tells (fun k => laws_FnExactOrdBefore.f k l) true)
  have hv := beforev_length l
  by_cases h : (l.length : Int) > 1048576
  · exact Tells.pos h (Tells.now _)
  · refine Tells.neg h ?_
    refine Tells.bind (toIntS_ev (by omega)) ?_
    refine Tells.bind (specOrdBefore_ev (by omega)) ?_
    refine Tells.bind (toIntS_ev (by omega)) ?_
    refine Tells.bind implOrdBefore_ev ?_
    refine Tells.bind (eqIntS_ev (by omega)) ?_
    refine Tells.pos (by simp) ?_
    refine Tells.step (fun k => by rw [laws_FnExactOrdBefore.j0]) ?_
    refine Tells.neg (by simp) ?_
    refine Tells.bind (toIntS_ev (by omega)) ?_
    refine Tells.bind (eqIntS_ev (by omega)) ?_
    refine Tells.pos (by simp) ?_
    refine Tells.bind (markIntS_ev (m := 1) (by omega) (by omega)) ?_
    refine Tells.neg (by omega) ?_
    refine Tells.bind (eqIntS_ev (by omega)) ?_
    refine Tells.pos (by simp) ?_
    refine Tells.step (fun k => by rw [laws_FnExactOrdBefore.j1]) ?_
    refine Tells.neg (by simp) ?_
    refine Tells.bind (markIntS_ev (m := 1) (by omega) (by omega)) ?_
    refine Tells.bind (heldIntS_ev (n := (beforev l).1.length) (m := 1) (by omega) (by omega)) ?_
    refine Tells.neg (by omega) ?_
    refine Tells.pos rfl ?_
    refine Tells.bind (toIntS_ev (by omega)) ?_
    refine Tells.bind implOrdBefore_ev ?_
    refine Tells.bind (eqIntS_ev (by omega)) ?_
    refine Tells.pos (by simp) ?_
    refine Tells.step (fun k => by rw [laws_FnExactOrdBefore.j2]) ?_
    refine Tells.neg (by simp) ?_
    refine Tells.bind (heldIntS_ev (n := (beforev l).1.length) (m := 1) (by omega) (by omega)) ?_
    refine Tells.neg (by omega) ?_
    refine Tells.pos rfl ?_
    exact Tells.now _
end Go.Proofs.Ytogaeadigmgcoaa.Pure
