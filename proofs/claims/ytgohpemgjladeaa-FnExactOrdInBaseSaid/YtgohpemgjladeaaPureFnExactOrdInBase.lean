/- The program's OrdInBase tells what the reference's tells, for all numbers: the law's pure statement. -/
import Derived.Test.YtgohpemgjladeaaP0
import Derived.Test.YtgohpemgjladeaaMath
import Derived.Test.YtgohpemgjladeaaPlawsFnExactOrdInBase
import Derived.Test.YtgohpemgjladeaaQE
import Derived.Test.YtgohpemgjladeaaQH
namespace Go.Proofs.Ytgohpemgjladeaa.Pure
open OM Go.RowKit Go.Proofs.Ytgohpemgjladeaa.P
theorem FnExactOrdInBase : laws_FnExactOrdInBase.Pure := by
  intro a b _ _
  refine Tells.rounds (?_ : Tells (fun k => laws_FnExactOrdInBase.f k a b) true)
  obtain ⟨r, h1, h2, h3⟩ := both_OrdInBase a b
  exact one_list (by omega) h2 h3
end Go.Proofs.Ytgohpemgjladeaa.Pure
