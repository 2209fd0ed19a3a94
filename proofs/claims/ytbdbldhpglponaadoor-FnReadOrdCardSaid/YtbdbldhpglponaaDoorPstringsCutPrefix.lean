/- One Go function comes to what its Lean function tells. -/
import Derived.Test.YtbdbldhpglponaaDoorP0
import Derived.Test.YtbdbldhpglponaaDoorPstringsliteCutPrefix
namespace Go.Proofs.YtbdbldhpglponaaDoor.P
open Go.RowKit YtbdbldhpglponaaDoorW.PrintWords YtbdbldhpglponaaDoorW.PrintLast YtbdbldhpglponaaDoorW.PrintMore
set_option linter.unusedVariables false
set_option linter.unusedSimpArgs false
/-! ### strings_CutPrefix: function 34 -/
def strings_CutPrefix.f (a0:ByteArray)(a1:ByteArray):Option (ByteArray × Bool):=(stringslite_CutPrefix.f a0 a1).bind fun bt393=>(some (bt393.1,bt393.2))
set_option maxHeartbeats 8000000 in
set_option maxRecDepth 100000 in
theorem strings_CutPrefix.calls (m:ByteArray)(o:ByteArray)(E:ByteArray)(G:Bool)(w:World)(h:strings_CutPrefix.f m o=some (E,G)) :
  Calls Tryd.prog 34 #[.string m,.string o] w fun e w'=>e=.returned (.tuple #[.string E,.bool G])∧Drawn0 w w':=by
 have H:((stringslite_CutPrefix.f m o).bind fun j=>(some (j.1,j.2)))=some (E,G):=h;clear h;replace H:=Option.bind_eq_some_iff.mp H;obtain⟨⟨z,D⟩,I,H⟩:=H;replace H:(some (z,D))=some (E,G):=H;have J:=Sd.mk I;clear I;simp only[Option.some.injEq,Prod.mk.injEq] at H;obtain⟨rfl,rfl⟩:=H;go_enter Tryd.func34,Tryd.ntmps34;go_wp2_with (first|((with_reducible refine gate_callee (f:=50) rfl ?_);refine goesL_ (some 8) rfl rfl Tryd.func50 (by kernel_rfl) rfl #[.string m,.string o] rfl az ?_;(with_reducible refine(stringslite_CutPrefix.calls m o z D _ J.out).mono ?_);rintro e w' ⟨rfl,⟨nd,rfl⟩⟩;refine⟨_,rfl,?_⟩));go_ret2;exact⟨by first|rfl|(simp;done)|(simp[*];done),by repeat (first|exact Drawn0.refl _|apply Drawn0.step)⟩
end Go.Proofs.YtbdbldhpglponaaDoor.P