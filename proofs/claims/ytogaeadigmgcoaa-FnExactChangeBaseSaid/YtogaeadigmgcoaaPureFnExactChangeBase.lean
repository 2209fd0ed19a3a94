/- The program's ChangeBase tells what the reference's tells, for all arguments: the law's pure statement. -/
import Derived.Test.YtogaeadigmgcoaaP0
import Derived.Test.YtogaeadigmgcoaaMath
import Derived.Test.YtogaeadigmgcoaaPlawsFnExactChangeBase
import Derived.Test.YtogaeadigmgcoaaQCB
namespace Go.Proofs.Ytogaeadigmgcoaa.Pure
open OM Go.RowKit Go.Proofs.Ytogaeadigmgcoaa.P
theorem FnExactChangeBase : laws_FnExactChangeBase.Pure := by
  intro a b c _ _ _
  refine Tells.rounds (?_ : Tells (fun k => laws_FnExactChangeBase.f k a b c) true)
  obtain ⟨r, _, _, h1, h2⟩ := both_ChangeBase a b c
  refine Tells.bind h1 ?_
  refine Tells.bind h2 ?_
  exact Tells.pos rfl (Tells.now _)
end Go.Proofs.Ytogaeadigmgcoaa.Pure
