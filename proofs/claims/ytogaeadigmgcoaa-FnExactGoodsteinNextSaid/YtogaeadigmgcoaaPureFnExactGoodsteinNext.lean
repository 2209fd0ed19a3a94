/- The program's GoodsteinNext tells what the reference's tells, for all arguments: the law's pure statement. -/
import Derived.Test.YtogaeadigmgcoaaP0
import Derived.Test.YtogaeadigmgcoaaMath
import Derived.Test.YtogaeadigmgcoaaPlawsFnExactGoodsteinNext
import Derived.Test.YtogaeadigmgcoaaQGN
namespace Go.Proofs.Ytogaeadigmgcoaa.Pure
open OM Go.RowKit Go.Proofs.Ytogaeadigmgcoaa.P
theorem FnExactGoodsteinNext : laws_FnExactGoodsteinNext.Pure := by
  intro a b _ _
  refine Tells.rounds (?_ : Tells (fun k => laws_FnExactGoodsteinNext.f k a b) true)
  obtain ⟨r, _, _, h1, h2⟩ := both_GNext a b
  refine Tells.bind h1 ?_
  refine Tells.bind h2 ?_
  exact Tells.pos rfl (Tells.now _)
end Go.Proofs.Ytogaeadigmgcoaa.Pure
