/- The program's constants are the reference's: the law's pure statement. -/
import Derived.Test.YtgohpemgjladeaaP0
import Derived.Test.YtgohpemgjladeaaMath
import Derived.Test.YtgohpemgjladeaaPlawsFnExactConstants
namespace Go.Proofs.Ytgohpemgjladeaa.Pure
open Go.RowKit Go.Proofs.Ytgohpemgjladeaa.P
theorem FnExactConstants : laws_FnExactConstants.Pure := rfl
end Go.Proofs.Ytgohpemgjladeaa.Pure
