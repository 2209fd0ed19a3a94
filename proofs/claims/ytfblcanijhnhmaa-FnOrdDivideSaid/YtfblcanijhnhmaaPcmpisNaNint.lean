/- One Go function comes to what its Lean function tells. -/
import Derived.Test.YtfblcanijhnhmaaP0
namespace Go.Proofs.Ytfblcanijhnhmaa.P
open Go.RowKit YtfblcanijhnhmaaW.PrintWords YtfblcanijhnhmaaW.PrintLast YtfblcanijhnhmaaW.PrintMore
set_option linter.unusedVariables false
set_option linter.unusedSimpArgs false
/-! ### cmp_isNaN_int: function 77 -/
def cmp_isNaN_int.f (a0:Int):Option (Bool):=some (a0 != a0)
set_option maxHeartbeats 8000000 in
set_option maxRecDepth 100000 in
theorem cmp_isNaN_int.calls (j:Int)(r:Bool)(w:World)(h:cmp_isNaN_int.f j=some r) :
  Calls Try.prog 77 #[.int .i64 j] w fun e w'=>e=.returned (.bool r)∧Drawn0 w w':=by
 have H:(some (j != j))=some r:=h;clear h;obtain rfl:=Option.some.inj H;go_enter Try.func77,Try.ntmps77;go_wp2;go_ret;exact⟨by first|rfl|(simp;done)|(simp[*];done),by repeat (first|exact Drawn0.refl _|apply Drawn0.step)⟩
end Go.Proofs.Ytfblcanijhnhmaa.P