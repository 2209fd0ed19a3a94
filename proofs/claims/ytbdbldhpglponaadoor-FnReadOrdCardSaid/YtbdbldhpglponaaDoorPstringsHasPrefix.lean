/- One Go function comes to what its Lean function tells. -/
import Derived.Test.YtbdbldhpglponaaDoorP0
import Derived.Test.YtbdbldhpglponaaDoorPstringsliteHasPrefix
namespace Go.Proofs.YtbdbldhpglponaaDoor.P
open Go.RowKit YtbdbldhpglponaaDoorW.PrintWords YtbdbldhpglponaaDoorW.PrintLast YtbdbldhpglponaaDoorW.PrintMore
set_option linter.unusedVariables false
set_option linter.unusedSimpArgs false
-- NOT PRINTED: function 84 (strconv_ParseUint)
-- NOT PRINTED: function 74 (strconv_ParseInt)
-- NOT PRINTED: function 65 (strconv_Atoi_65)
-- NOT PRINTED: function 85 (stringslite_Clone)
-- NOT PRINTED: function 75 (strconv_syntaxError)
-- NOT PRINTED: function 76 (strconv_rangeError)
/-! ### strings_HasPrefix: function 48 -/
def strings_HasPrefix.f (a0:ByteArray)(a1:ByteArray):Option (Bool):=(stringslite_HasPrefix.f a0 a1).bind fun t432=>(some t432)
set_option maxHeartbeats 8000000 in
set_option maxRecDepth 100000 in
theorem strings_HasPrefix.calls (m:ByteArray)(o:ByteArray)(r:Bool)(w:World)(h:strings_HasPrefix.f m o=some r) :
  Calls Tryd.prog 48 #[.string m,.string o] w fun e w'=>e=.returned (.bool r)∧Drawn0 w w':=by
 have H:((stringslite_HasPrefix.f m o).bind fun j=>(some j))=some r:=h;clear h;obtain⟨j,z,H⟩:=bs H;obtain rfl:=Option.some.inj H;go_enter Tryd.func48,Tryd.ntmps48;go_wp2_with (first|((with_reducible refine gate_callee (f:=60) rfl ?_);refine goesL_ (some 7) rfl rfl Tryd.func60 (by kernel_rfl) rfl #[.string m,.string o] rfl az ?_;(with_reducible refine(stringslite_HasPrefix.calls m o j _ z.out).mono ?_);rintro e w' ⟨rfl,⟨nd,rfl⟩⟩;refine⟨_,rfl,?_⟩));go_ret;exact⟨by first|rfl|(simp;done)|(simp[*];done),by repeat (first|exact Drawn0.refl _|apply Drawn0.step)⟩
end Go.Proofs.YtbdbldhpglponaaDoor.P