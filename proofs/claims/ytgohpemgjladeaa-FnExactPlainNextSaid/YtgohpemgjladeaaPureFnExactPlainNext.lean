/- The program's PlainNext tells what the reference's tells, for all numbers: the law's pure statement. -/
import Derived.Test.YtgohpemgjladeaaP0
import Derived.Test.YtgohpemgjladeaaMath
import Derived.Test.YtgohpemgjladeaaPlawsFnExactPlainNext
import Derived.Test.YtgohpemgjladeaaQJ
namespace Go.Proofs.Ytgohpemgjladeaa.Pure
open OM Go.RowKit Go.Proofs.Ytgohpemgjladeaa.P
theorem FnExactPlainNext : laws_FnExactPlainNext.Pure := by
  intro a b _ _
  refine Tells.rounds (?_ : Tells (fun k => laws_FnExactPlainNext.f k a b) true)
  obtain ⟨r, h2, h3⟩ := both_PlainNext a b
  refine Tells.bind h2 ?_
  refine Tells.bind h3 ?_
  exact Tells.pos rfl (Tells.now _)
end Go.Proofs.Ytgohpemgjladeaa.Pure
