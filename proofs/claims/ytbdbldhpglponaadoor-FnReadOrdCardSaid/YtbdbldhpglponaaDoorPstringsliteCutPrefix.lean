/- One Go function comes to what its Lean function tells. -/
import Derived.Test.YtbdbldhpglponaaDoorP0
import Derived.Test.YtbdbldhpglponaaDoorPstringsliteHasPrefix
namespace Go.Proofs.YtbdbldhpglponaaDoor.P
open Go.RowKit YtbdbldhpglponaaDoorW.PrintWords YtbdbldhpglponaaDoorW.PrintLast YtbdbldhpglponaaDoorW.PrintMore
set_option linter.unusedVariables false
set_option linter.unusedSimpArgs false
/-! ### stringslite_CutPrefix: function 50 -/
def stringslite_CutPrefix.f (a0:ByteArray)(a1:ByteArray):Option (ByteArray × Bool):=(stringslite_HasPrefix.f a0 a1).bind fun t392=>(if t392=true then(if 0≤(a1.size:Int) then(if(a1.size:Int)≤(a0.size:Int) then(some (a0.extract ((a1.size:Int):Int).toNat a0.size,true)) else(none)) else(none)) else(some (a0,false)))
set_option maxHeartbeats 8000000 in
set_option maxRecDepth 100000 in
theorem stringslite_CutPrefix.calls (m:ByteArray)(j:ByteArray)(z:ByteArray)(D:Bool)(w:World)(h:stringslite_CutPrefix.f m j=some (z,D)) :
  Calls Tryd.prog 50 #[.string m,.string j] w fun e w'=>e=.returned (.tuple #[.string z,.bool D])∧Drawn0 w w':=by
 have H:((stringslite_HasPrefix.f m j).bind fun o=>(if o=true then(if 0≤(j.size:Int) then(if(j.size:Int)≤(m.size:Int) then(some (m.extract ((j.size:Int):Int).toNat m.size,true)) else(none)) else(none)) else(some (m,false))))=some (z,D):=h;clear h;obtain⟨o,E,H⟩:=bs H
 by_cases c4:o=true
 ·subst c4
  replace H:=ip rfl H
  by_cases c5:0≤(j.size:Int)
  ·rw[if_pos c5] at H
   have G:=eq_true c5;have I:decide (0≤(j.size:Int))=true:=decide_eq_true c5;clear c5
   by_cases c6:(j.size:Int)≤(m.size:Int)
   ·rw[if_pos c6] at H
    have J:=eq_true c6;have L:decide ((j.size:Int)≤(m.size:Int))=true:=decide_eq_true c6;clear c6;simp only[Option.some.injEq,Prod.mk.injEq] at H;obtain⟨rfl,rfl⟩:=H;go_enter Tryd.func50,Tryd.ntmps50;go_wp2_with (first|((with_reducible refine gate_callee (f:=60) rfl ?_);refine goesL_ (some 8) rfl rfl Tryd.func60 (by kernel_rfl) rfl #[.string m,.string j] rfl az ?_;(with_reducible refine(stringslite_HasPrefix.calls m j true _ E.out).mono ?_);rintro e w' ⟨rfl,⟨nd,rfl⟩⟩;refine⟨_,rfl,?_⟩));go_ret2;exact⟨by first|rfl|(simp;done)|(simp[*];done),by repeat (first|exact Drawn0.refl _|apply Drawn0.step)⟩
   ·rw[if_neg c6] at H
    exact absurd H (by simp)
  ·rw[if_neg c5] at H
   exact absurd H (by simp)
 ·replace c4:=Bool.eq_false_iff.mpr c4
  subst c4;replace H:=ng ft H;simp only[Option.some.injEq,Prod.mk.injEq] at H;obtain⟨rfl,rfl⟩:=H;go_enter Tryd.func50,Tryd.ntmps50;go_wp2_with (first|((with_reducible refine gate_callee (f:=60) rfl ?_);refine goesL_ (some 8) rfl rfl Tryd.func60 (by kernel_rfl) rfl #[.string m,.string j] rfl az ?_;(with_reducible refine(stringslite_HasPrefix.calls m j false _ E.out).mono ?_);rintro e w' ⟨rfl,⟨nd,rfl⟩⟩;refine⟨_,rfl,?_⟩));go_ret2;exact⟨by first|rfl|(simp;done)|(simp[*];done),by repeat (first|exact Drawn0.refl _|apply Drawn0.step)⟩
end Go.Proofs.YtbdbldhpglponaaDoor.P