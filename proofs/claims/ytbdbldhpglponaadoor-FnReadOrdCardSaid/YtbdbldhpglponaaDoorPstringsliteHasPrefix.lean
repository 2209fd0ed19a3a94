/- One Go function comes to what its Lean function tells. -/
import Derived.Test.YtbdbldhpglponaaDoorP0
namespace Go.Proofs.YtbdbldhpglponaaDoor.P
open Go.RowKit YtbdbldhpglponaaDoorW.PrintWords YtbdbldhpglponaaDoorW.PrintLast YtbdbldhpglponaaDoorW.PrintMore
set_option linter.unusedVariables false
set_option linter.unusedSimpArgs false
/-! ### stringslite_HasPrefix: function 60 -/
def stringslite_HasPrefix.f (a0:ByteArray)(a1:ByteArray):Option (Bool):=if(a0.size:Int)≥(a1.size:Int) then(if 0≤(a1.size:Int) then(if(a1.size:Int)≤(a0.size:Int) then(some ((a0.extract 0 ((a1.size:Int):Int).toNat).toList == a1.toList)) else(none)) else(none)) else(some false)
set_option maxHeartbeats 8000000 in
set_option maxRecDepth 100000 in
theorem stringslite_HasPrefix.calls (m:ByteArray)(j:ByteArray)(r:Bool)(w:World)(h:stringslite_HasPrefix.f m j=some r) :
  Calls Tryd.prog 60 #[.string m,.string j] w fun e w'=>e=.returned (.bool r)∧Drawn0 w w':=by
 have H:(if(m.size:Int)≥(j.size:Int) then(if 0≤(j.size:Int) then(if(j.size:Int)≤(m.size:Int) then(some ((m.extract 0 ((j.size:Int):Int).toNat).toList == j.toList)) else(none)) else(none)) else(some false))=some r:=h;clear h
 by_cases c3:(m.size:Int)≥(j.size:Int)
 ·rw[if_pos c3] at H
  have o:decide ((j.size:Int)≤(m.size:Int))=true:=decide_eq_true c3;have z:decide (j.size≤m.size)=true:=decide_eq_true (Int.ofNat_le.mp c3);clear c3
  by_cases c4:0≤(j.size:Int)
  ·rw[if_pos c4] at H
   have D:=eq_true c4;have E:decide (0≤(j.size:Int))=true:=decide_eq_true c4;clear c4
   by_cases c5:(j.size:Int)≤(m.size:Int)
   ·rw[if_pos c5] at H
    have G:=eq_true c5;have I:decide ((j.size:Int)≤(m.size:Int))=true:=decide_eq_true c5;clear c5;obtain rfl:=Option.some.inj H;go_enter Tryd.func60,Tryd.ntmps60;go_wp2;go_ret;exact⟨by first|rfl|(simp;done)|(simp[*];done),by repeat (first|exact Drawn0.refl _|apply Drawn0.step)⟩
   ·rw[if_neg c5] at H
    exact absurd H (by simp)
  ·rw[if_neg c4] at H
   exact absurd H (by simp)
 ·rw[if_neg c3] at H
  have o:decide ((j.size:Int)≤(m.size:Int))=false:=decide_eq_false c3;have z:decide (j.size≤m.size)=false:=decide_eq_false (fun h=>c3 (Int.ofNat_le.mpr h));clear c3;obtain rfl:=Option.some.inj H;go_enter Tryd.func60,Tryd.ntmps60;go_wp2;go_ret;exact⟨by first|rfl|(simp;done)|(simp[*];done),by repeat (first|exact Drawn0.refl _|apply Drawn0.step)⟩
end Go.Proofs.YtbdbldhpglponaaDoor.P