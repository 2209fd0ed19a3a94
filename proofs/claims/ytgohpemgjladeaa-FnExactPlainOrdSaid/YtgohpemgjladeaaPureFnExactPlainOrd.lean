/- The program's PlainOrd tells what the reference's tells, for all numbers: the law's pure statement. -/
import Derived.Test.YtgohpemgjladeaaP0
import Derived.Test.YtgohpemgjladeaaMath
import Derived.Test.YtgohpemgjladeaaPlawsFnExactPlainOrd
import Derived.Test.YtgohpemgjladeaaQE
import Derived.Test.YtgohpemgjladeaaQI
namespace Go.Proofs.Ytgohpemgjladeaa.Pure
open OM Go.RowKit Go.Proofs.Ytgohpemgjladeaa.P
theorem FnExactPlainOrd : laws_FnExactPlainOrd.Pure := by
  intro a b _ _
  refine Tells.rounds (?_ : Tells (fun k => laws_FnExactPlainOrd.f k a b) true)
  obtain ⟨r, h1, h2, h3⟩ := both_PlainOrd a b
  exact one_list (by omega) h2 h3
end Go.Proofs.Ytgohpemgjladeaa.Pure
