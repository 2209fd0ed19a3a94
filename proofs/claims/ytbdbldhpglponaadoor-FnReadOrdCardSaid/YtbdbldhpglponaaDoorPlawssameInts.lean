/- One Go function comes to what its Lean function tells. -/
import Derived.Test.YtbdbldhpglponaaDoorP0
namespace Go.Proofs.YtbdbldhpglponaaDoor.P
open Go.RowKit YtbdbldhpglponaaDoorW.PrintWords YtbdbldhpglponaaDoorW.PrintLast YtbdbldhpglponaaDoorW.PrintMore
set_option linter.unusedVariables false
set_option linter.unusedSimpArgs false
/-! ### laws_sameInts: function 17 -/
def laws_sameInts.l0:Nat→List Int→List Int→Int→Option (Bool)
 | 0,_,_,_=>none
 | k+1,x0,x1,x5=>if x5<(x0.length:Int) then(if 0≤x5 then(if x5<(x1.length:Int) then(if(rd x0 x5)=(rd x1 x5) then(laws_sameInts.l0 k x0 x1 (wrap64 (x5+1))) else(some false)) else(none)) else(none)) else(some true)
def laws_sameInts.f (k:Nat)(l0:List Int)(l1:List Int):Option (Bool):=if(l0.length:Int)=(l1.length:Int) then(laws_sameInts.l0 k l0 l1 0) else(some false)
set_option maxHeartbeats 8000000 in
set_option maxRecDepth 100000 in
theorem laws_sameInts.calls (k:Nat)(A0:Option Addr)(c0:Nat)(l0:List Int)(A1:Option Addr)(c1:Nat)(l1:List Int)(r:Bool)(w:World)(O:Kd.C (Kd.int .i64) w A0 l0.length l0)(U:l0.length≤c0)(X:Kd.C (Kd.int .i64) w A1 l1.length l1)(Y:l1.length≤c1)(h:laws_sameInts.f k l0 l1=some r) :
  Calls Tryd.prog 17 #[.slice A0 l0.length c0,.slice A1 l1.length c1] w fun e w'=>e=.returned (.bool r)∧Drawn0 w w':=by
 have Z:=Sd.mk O;have aq:=Sd.mk U;clear O U;have aa:=Sd.mk X;have ar:=Sd.mk Y;clear X Y;have H:(if(l0.length:Int)=(l1.length:Int) then(laws_sameInts.l0 k l0 l1 0) else(some false))=some r:=h;clear h
 by_cases c3:(l0.length:Int)=(l1.length:Int)
 ·rw[if_pos c3] at H
  have ac:((l0.length:Int) == (l1.length:Int))=true:=beq_iff_eq.mpr c3;have ad:((l0.length:Int) != (l1.length:Int))=false:=bne_eq_false_iff_eq.mpr c3
  have ae:(l0.length == l1.length)=true:=by first|simpa using c3|(simp at c3 ⊢;omega)
  clear c3;have H':=Sd.mk H;clear H;go_enter Tryd.func17,Tryd.ntmps17;go_wp2
  repeat (go_quiet (fail);try go_wp2)
  go_loopg [5] k (fun kq v5 w'=>∃ (j:Int),v5=.int .i64 j∧Sd (laws_sameInts.l0 kq l0 l1 j=some r)∧Sd (kq≤k)∧Drawn0 w w')
  case atStart=>exact⟨(0),(by first|rfl|(simp;done)|(simp[*];done)),H',⟨Nat.le_refl _⟩,by repeat (first|exact Drawn0.refl _|apply Drawn0.step)⟩
  case round =>
   clear H';obtain⟨j,rfl,HA,ab,⟨m1,rfl⟩⟩:=hrel
   cases gk with
   | zero=>exact absurd HA.out (by simp[laws_sameInts.l0])
   | succ k1 =>
    have H:=HA.out;clear HA;simp only[laws_sameInts.l0] at H
    by_cases c4:j<(l0.length:Int)
    ·rw[if_pos c4] at H
     have ag:decide (j<(l0.length:Int))=true:=decide_eq_true c4;clear c4
     by_cases c5:0≤j
     ·rw[if_pos c5] at H
      have ao:decide (0≤j)=true:=decide_eq_true c5;clear c5
      by_cases c6:j<(l1.length:Int)
      ·rw[if_pos c6] at H
       have ap:decide (j<(l1.length:Int))=true:=decide_eq_true c6;clear c6
       by_cases c7:(rd l0 j)=(rd l1 j)
       ·rw[if_pos c7] at H
        have ah:((rd l0 j) == (rd l1 j))=true:=beq_iff_eq.mpr c7;have ai:((rd l0 j) != (rd l1 j))=false:=bne_eq_false_iff_eq.mpr c7;clear c7;have H':=Sd.mk H;clear H;have m:0≤(j:Int):=dz;have o:j<(l0.length:Int):=dz;obtain⟨L,E,I⟩:=Kd.at_int Z.out j m o;cases E;replace m:=eq_true m;replace o:=eq_true o;have z:0≤(j:Int):=dz;have D:j<(l1.length:Int):=dz;obtain⟨M,G,J⟩:=Kd.at_int aa.out j z D;cases G;replace z:=eq_true z;replace D:=eq_true D;go_wp2
        repeat (go_quiet (fail);try go_wp2)
        go_roundg k1
        case measure=>have:=ab.out;omega
        case rel=>exact⟨(wrap64 (j+1)),(by first|rfl|(simp;done)|(simp[*];done)),H',⟨by have:=ab.out;omega⟩,by repeat (first|exact Drawn0.refl _|apply Drawn0.step)⟩
       ·rw[if_neg c7] at H
        have ah:((rd l0 j) == (rd l1 j))=false:=beq_eq_false_iff_ne.mpr c7;have ai:((rd l0 j) != (rd l1 j))=true:=bne_iff_ne.mpr c7;obtain rfl:=Option.some.inj H;have m:0≤(j:Int):=dz;have o:j<(l0.length:Int):=dz;obtain⟨L,E,I⟩:=Kd.at_int Z.out j m o;cases E;replace m:=eq_true m;replace o:=eq_true o;have z:0≤(j:Int):=dz;have D:j<(l1.length:Int):=dz;obtain⟨M,G,J⟩:=Kd.at_int aa.out j z D;cases G;replace z:=eq_true z;replace D:=eq_true D;go_wp2
        repeat (go_quiet (fail);try go_wp2)
        go_ret;exact⟨by first|rfl|(simp;done)|(simp[*];done),by repeat (first|exact Drawn0.refl _|apply Drawn0.step)⟩
      ·rw[if_neg c6] at H
       exact absurd H (by simp)
     ·rw[if_neg c5] at H
      exact absurd H (by simp)
    ·rw[if_neg c4] at H
     have ag:decide (j<(l0.length:Int))=false:=decide_eq_false c4;clear c4;obtain rfl:=Option.some.inj H;go_wp2
     repeat (go_quiet (fail);try go_wp2)
     go_ret;exact⟨by first|rfl|(simp;done)|(simp[*];done),by repeat (first|exact Drawn0.refl _|apply Drawn0.step)⟩
 ·rw[if_neg c3] at H
  have ac:((l0.length:Int) == (l1.length:Int))=false:=beq_eq_false_iff_ne.mpr c3;have ad:((l0.length:Int) != (l1.length:Int))=true:=bne_iff_ne.mpr c3
  have ae:(l0.length == l1.length)=false:=by first|simpa using c3|(simp at c3 ⊢;omega)
  obtain rfl:=Option.some.inj H;go_enter Tryd.func17,Tryd.ntmps17;go_wp2
  repeat (go_quiet (fail);try go_wp2)
  go_ret;exact⟨by first|rfl|(simp;done)|(simp[*];done),by repeat (first|exact Drawn0.refl _|apply Drawn0.step)⟩
end Go.Proofs.YtbdbldhpglponaaDoor.P