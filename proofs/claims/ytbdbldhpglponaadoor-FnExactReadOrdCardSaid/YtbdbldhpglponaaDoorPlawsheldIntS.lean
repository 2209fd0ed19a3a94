/- One Go function comes to what its Lean function tells. -/
import Derived.Test.YtbdbldhpglponaaDoorP0
namespace Go.Proofs.YtbdbldhpglponaaDoor.P
open Go.RowKit YtbdbldhpglponaaDoorW.PrintWords YtbdbldhpglponaaDoorW.PrintLast YtbdbldhpglponaaDoorW.PrintMore
set_option linter.unusedVariables false
set_option linter.unusedSimpArgs false
/-! ### laws_heldIntS: function 11 -/
def laws_heldIntS.l0:Nat→List Int→Int→Int→Option (Int)
 | 0,_,_,_=>none
 | k+1,x0,x1,x5=>if x5<(x0.length:Int) then(if 0≤x5 then(if(rd x0 x5)=x1 then(laws_heldIntS.l0 k x0 (wrap64 (x1+1)) (wrap64 (x5+1))) else(some (-1))) else(none)) else(some x1)
def laws_heldIntS.f (k:Nat)(l0:List Int)(a1:Int):Option (Int):=laws_heldIntS.l0 k l0 a1 0
set_option maxHeartbeats 8000000 in
set_option maxRecDepth 100000 in
theorem laws_heldIntS.calls (k:Nat)(A0:Option Addr)(c0:Nat)(l0:List Int)(G:Int)(r:Int)(w:World)(J:Kd.C (Kd.int .i64) w A0 l0.length l0)(L:l0.length≤c0)(h:laws_heldIntS.f k l0 G=some r) :
  Calls Tryd.prog 11 #[.slice A0 l0.length c0,.int .i64 G] w fun e w'=>e=.returned (.int .i64 r)∧Drawn0 w w':=by
 have M:=Sd.mk J;have af:=Sd.mk L;clear J L;have H:(laws_heldIntS.l0 k l0 G 0)=some r:=h;clear h;have H':=Sd.mk H;clear H;go_enter Tryd.func11,Tryd.ntmps11;go_wp2
 go_loopg [1,5] k (fun kq v1 v5 w'=>∃ (m:Int) (j:Int),v1=.int .i64 m∧v5=.int .i64 j∧Sd (laws_heldIntS.l0 kq l0 m j=some r)∧Sd (kq≤k)∧Drawn0 w w')
 case atStart=>exact⟨(G),(0),(by first|rfl|(simp;done)|(simp[*];done)),(by first|rfl|(simp;done)|(simp[*];done)),H',⟨Nat.le_refl _⟩,by repeat (first|exact Drawn0.refl _|apply Drawn0.step)⟩
 case round =>
  clear H';obtain⟨m,j,rfl,rfl,U,O,⟨m1,rfl⟩⟩:=hrel
  cases gk with
  | zero=>exact absurd U.out (by simp[laws_heldIntS.l0])
  | succ k1 =>
   have H:=U.out;clear U;simp only[laws_heldIntS.l0] at H
   by_cases c3:j<(l0.length:Int)
   ·rw[if_pos c3] at H
    have X:decide (j<(l0.length:Int))=true:=decide_eq_true c3;clear c3
    by_cases c4:0≤j
    ·rw[if_pos c4] at H
     have ae:decide (0≤j)=true:=decide_eq_true c4;clear c4
     by_cases c5:(rd l0 j)=m
     ·rw[if_pos c5] at H
      have Y:((rd l0 j) == m)=true:=beq_iff_eq.mpr c5;have Z:((rd l0 j) != m)=false:=bne_eq_false_iff_eq.mpr c5;clear c5;have H':=Sd.mk H;clear H;have o:0≤(j:Int):=dz;have z:j<(l0.length:Int):=dz;obtain⟨I,D,E⟩:=Kd.at_int M.out j o z;cases D;replace o:=eq_true o;replace z:=eq_true z;go_wp2
      go_roundg k1
      case measure=>have:=O.out;omega
      case rel=>exact⟨(wrap64 (m+1)),(wrap64 (j+1)),(by first|rfl|(simp;done)|(simp[*];done)),(by first|rfl|(simp;done)|(simp[*];done)),H',⟨by have:=O.out;omega⟩,by repeat (first|exact Drawn0.refl _|apply Drawn0.step)⟩
     ·rw[if_neg c5] at H
      have Y:((rd l0 j) == m)=false:=beq_eq_false_iff_ne.mpr c5;have Z:((rd l0 j) != m)=true:=bne_iff_ne.mpr c5;obtain rfl:=Option.some.inj H;have o:0≤(j:Int):=dz;have z:j<(l0.length:Int):=dz;obtain⟨I,D,E⟩:=Kd.at_int M.out j o z;cases D;replace o:=eq_true o;replace z:=eq_true z;go_wp2;go_ret;exact⟨by first|rfl|(simp;done)|(simp[*];done),by repeat (first|exact Drawn0.refl _|apply Drawn0.step)⟩
    ·rw[if_neg c4] at H
     exact absurd H (by simp)
   ·rw[if_neg c3] at H
    have X:decide (j<(l0.length:Int))=false:=decide_eq_false c3;clear c3;obtain rfl:=Option.some.inj H;go_wp2;go_ret;exact⟨by first|rfl|(simp;done)|(simp[*];done),by repeat (first|exact Drawn0.refl _|apply Drawn0.step)⟩
end Go.Proofs.YtbdbldhpglponaaDoor.P