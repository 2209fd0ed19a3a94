/- One Go function comes to what its Lean function tells. -/
import Derived.Test.YtbdbldhpglponaaDoorP0
namespace Go.Proofs.YtbdbldhpglponaaDoor.P
open Go.RowKit YtbdbldhpglponaaDoorW.PrintWords YtbdbldhpglponaaDoorW.PrintLast YtbdbldhpglponaaDoorW.PrintMore
set_option linter.unusedVariables false
set_option linter.unusedSimpArgs false
/-! ### spec_l1Same: function 43 -/
mutual
def spec_l1Same.l0:Nat→List Int→List Int→Int→Option (Bool)
 | 0,_,_,_=>none
 | k+1,x0,x1,x5=>if x5<(x0.length:Int) then(spec_l1Same.j1 k x0 x1 x5 (decide (x5<(x1.length:Int)))) else(spec_l1Same.j1 k x0 x1 x5 false)
def spec_l1Same.j1:Nat→List Int→List Int→Int→Bool→Option (Bool)
 | 0,_,_,_,_=>none
 | k+1,x0,x1,x5,x15=>if x15=true then(if 0≤x5 then(if x5<(x0.length:Int) then(if x5<(x1.length:Int) then(if(rd x0 x5)=(rd x1 x5) then(spec_l1Same.l0 k x0 x1 (wrap64 (x5+1))) else(some false)) else(none)) else(none)) else(none)) else(some ((x0.length:Int) == (x1.length:Int)))
end
def spec_l1Same.f (k:Nat)(l0:List Int)(l1:List Int):Option (Bool):=spec_l1Same.l0 k l0 l1 0
set_option maxHeartbeats 8000000 in
set_option maxRecDepth 100000 in
theorem spec_l1Same.calls (k:Nat)(A0:Option Addr)(c0:Nat)(l0:List Int)(A1:Option Addr)(c1:Nat)(l1:List Int)(r:Bool)(w:World)(aa:Kd.C (Kd.int .i64) w A0 l0.length l0)(ab:l0.length≤c0)(ac:Kd.C (Kd.int .i64) w A1 l1.length l1)(ad:l1.length≤c1)(h:spec_l1Same.f k l0 l1=some r) :
  Calls Tryd.prog 43 #[.slice A0 l0.length c0,.slice A1 l1.length c1] w fun e w'=>e=.returned (.bool r)∧Drawn0 w w':=by
 have ae:=Sd.mk aa;have av:=Sd.mk ab;clear aa ab;have af:=Sd.mk ac;have aw:=Sd.mk ad;clear ac ad;have H:(spec_l1Same.l0 k l0 l1 0)=some r:=h;clear h;have H':=Sd.mk H;clear H;go_enter Tryd.func43,Tryd.ntmps43;go_wp2
 repeat (go_quiet (fail);try go_wp2)
 go_loopg [5] k (fun kq v5 w'=>∃ (j:Int),v5=.int .i64 j∧Sd (spec_l1Same.l0 kq l0 l1 j=some r)∧Sd (kq≤k)∧Drawn0 w w')
 case atStart=>exact⟨(0),(by first|rfl|(simp;done)|(simp[*];done)),H',⟨Nat.le_refl _⟩,by repeat (first|exact Drawn0.refl _|apply Drawn0.step)⟩
 case round =>
  clear H';obtain⟨j,rfl,I,M,⟨m1,rfl⟩⟩:=hrel
  cases gk with
  | zero=>exact absurd I.out (by simp[spec_l1Same.l0])
  | succ k1 =>
   have H:=I.out;clear I;simp only[spec_l1Same.l0] at H;have X:=Sd.mk H;clear H
   go_upto_region 2 with (fail)
   repeat (go_quiet (fail);go_upto_region 2 with (fail))
   go_cut [15] (fun an wc=>∃ (kq:Nat) (E:Bool),an=.bool E∧Sd (spec_l1Same.j1 kq l0 l1 j E=some r)∧Sd (kq≤k1)∧Drawn0 w wc)
   case first =>
    have H:=X.out;clear X
    by_cases c4:j<(l0.length:Int)
    ·rw[if_pos c4] at H
     have G:decide (j<(l0.length:Int))=true:=decide_eq_true c4;clear c4
     (first|rw[G]|(simp only[i64_w,i32_w];rw[G])|skip)
     have H':=Sd.mk H;clear H;go_wp2
     repeat (go_quiet (fail);try go_wp2)
     go_meet
     case rel=>exact⟨_,(decide (j<(l1.length:Int))),(by first|rfl|(simp;done)|(simp[*];done)),H',⟨by have:=M.out;first|omega|exact Nat.le_refl _⟩,by repeat (first|exact Drawn0.refl _|apply Drawn0.step)⟩
    ·rw[if_neg c4] at H
     have G:decide (j<(l0.length:Int))=false:=decide_eq_false c4;clear c4
     (first|rw[G]|(simp only[i64_w,i32_w];rw[G])|skip)
     have H':=Sd.mk H;clear H;go_wp2
     repeat (go_quiet (fail);try go_wp2)
     go_meet
     case rel=>exact⟨_,(false),(by first|rfl|(simp;done)|(simp[*];done)),H',⟨by have:=M.out;first|omega|exact Nat.le_refl _⟩,by repeat (first|exact Drawn0.refl _|apply Drawn0.step)⟩
   case rest =>
    clear X;obtain⟨kq,E,rfl,I,ag,⟨ax,rfl⟩⟩:=hcut
    cases kq with
    | zero=>exact absurd I.out (by simp[spec_l1Same.j1])
    | succ ao =>
     have H:=I.out;clear I;simp only[spec_l1Same.j1] at H
     by_cases c5:E=true
     ·subst c5
      replace H:=ip rfl H
      by_cases c6:0≤j
      ·rw[if_pos c6] at H
       have aq:decide (0≤j)=true:=decide_eq_true c6;clear c6
       by_cases c7:j<(l0.length:Int)
       ·rw[if_pos c7] at H
        have ar:decide (j<(l0.length:Int))=true:=decide_eq_true c7;clear c7
        by_cases c8:j<(l1.length:Int)
        ·rw[if_pos c8] at H
         have au:decide (j<(l1.length:Int))=true:=decide_eq_true c8;clear c8
         by_cases c9:(rd l0 j)=(rd l1 j)
         ·rw[if_pos c9] at H
          have ah:((rd l0 j) == (rd l1 j))=true:=beq_iff_eq.mpr c9;have ai:((rd l0 j) != (rd l1 j))=false:=bne_eq_false_iff_eq.mpr c9;clear c9;have H':=Sd.mk H;clear H;have m:0≤(j:Int):=dz;have o:j<(l0.length:Int):=dz;obtain⟨Y,J,O⟩:=Kd.at_int ae.out j m o;cases J;replace m:=eq_true m;replace o:=eq_true o;have z:0≤(j:Int):=dz;have D:j<(l1.length:Int):=dz;obtain⟨Z,L,U⟩:=Kd.at_int af.out j z D;cases L;replace z:=eq_true z;replace D:=eq_true D;go_wp2
          repeat (go_quiet (fail);try go_wp2)
          go_roundg ao
          case measure=>have:=M.out;have:=ag.out;omega
          case rel=>exact⟨(wrap64 (j+1)),(by first|rfl|(simp;done)|(simp[*];done)),H',⟨by have:=M.out;have:=ag.out;omega⟩,by repeat (first|exact Drawn0.refl _|apply Drawn0.step)⟩
         ·rw[if_neg c9] at H
          have ah:((rd l0 j) == (rd l1 j))=false:=beq_eq_false_iff_ne.mpr c9;have ai:((rd l0 j) != (rd l1 j))=true:=bne_iff_ne.mpr c9;obtain rfl:=Option.some.inj H;have m:0≤(j:Int):=dz;have o:j<(l0.length:Int):=dz;obtain⟨Y,J,O⟩:=Kd.at_int ae.out j m o;cases J;replace m:=eq_true m;replace o:=eq_true o;have z:0≤(j:Int):=dz;have D:j<(l1.length:Int):=dz;obtain⟨Z,L,U⟩:=Kd.at_int af.out j z D;cases L;replace z:=eq_true z;replace D:=eq_true D;go_wp2
          repeat (go_quiet (fail);try go_wp2)
          go_ret;exact⟨by first|rfl|(simp;done)|(simp[*];done),by repeat (first|exact Drawn0.refl _|apply Drawn0.step)⟩
        ·rw[if_neg c8] at H
         exact absurd H (by simp)
       ·rw[if_neg c7] at H
        exact absurd H (by simp)
      ·rw[if_neg c6] at H
       exact absurd H (by simp)
     ·replace c5:=Bool.eq_false_iff.mpr c5
      subst c5;replace H:=ng ft H;obtain rfl:=Option.some.inj H;go_wp2
      repeat (go_quiet (fail);try go_wp2)
      go_ret;exact⟨by first|rfl|(simp;done)|(simp[*];done),by repeat (first|exact Drawn0.refl _|apply Drawn0.step)⟩
end Go.Proofs.YtbdbldhpglponaaDoor.P