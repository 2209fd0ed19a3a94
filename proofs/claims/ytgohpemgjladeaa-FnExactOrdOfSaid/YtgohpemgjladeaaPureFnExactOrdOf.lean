/- The program's OrdOf tells what the reference's tells, for every number: the law's pure statement. -/
import Derived.Test.YtgohpemgjladeaaP0
import Derived.Test.YtgohpemgjladeaaMath
import Derived.Test.YtgohpemgjladeaaPlawsFnExactOrdOf
import Derived.Test.YtgohpemgjladeaaQE
import Derived.Test.YtgohpemgjladeaaQN
namespace Go.Proofs.Ytgohpemgjladeaa.Pure
open OM Go.RowKit Go.Proofs.Ytgohpemgjladeaa.P
theorem FnExactOrdOf : laws_FnExactOrdOf.Pure := by
  intro a _
  refine Tells.rounds (?_ : Tells (fun k => laws_FnExactOrdOf.f k a) true)
  exact one_list (by have := ofv_length a; omega) (Tells.const (specOrdOf_eq a)) implOrdOf_ev
end Go.Proofs.Ytgohpemgjladeaa.Pure
