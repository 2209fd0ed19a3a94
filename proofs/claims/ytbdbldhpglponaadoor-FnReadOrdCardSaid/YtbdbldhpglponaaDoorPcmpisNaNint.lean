/- One Go function comes to what its Lean function tells. -/
import Derived.Test.YtbdbldhpglponaaDoorP0
namespace Go.Proofs.YtbdbldhpglponaaDoor.P
open Go.RowKit YtbdbldhpglponaaDoorW.PrintWords YtbdbldhpglponaaDoorW.PrintLast YtbdbldhpglponaaDoorW.PrintMore
set_option linter.unusedVariables false
set_option linter.unusedSimpArgs false
/-! ### cmp_isNaN_int: function 73 -/
def cmp_isNaN_int.f (a0:Int):Option (Bool):=some (a0 != a0)
set_option maxHeartbeats 8000000 in
set_option maxRecDepth 100000 in
theorem cmp_isNaN_int.calls (j:Int)(r:Bool)(w:World)(h:cmp_isNaN_int.f j=some r) :
  Calls Tryd.prog 73 #[.int .i64 j] w fun e w'=>e=.returned (.bool r)∧Drawn0 w w':=by
 have H:(some (j != j))=some r:=h;clear h;obtain rfl:=Option.some.inj H;go_enter Tryd.func73,Tryd.ntmps73;go_wp2;go_ret;exact⟨by first|rfl|(simp;done)|(simp[*];done),by repeat (first|exact Drawn0.refl _|apply Drawn0.step)⟩
end Go.Proofs.YtbdbldhpglponaaDoor.P