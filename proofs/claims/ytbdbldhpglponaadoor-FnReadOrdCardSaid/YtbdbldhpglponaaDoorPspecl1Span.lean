/- One Go function comes to what its Lean function tells. -/
import Derived.Test.YtbdbldhpglponaaDoorP0
namespace Go.Proofs.YtbdbldhpglponaaDoor.P
open Go.RowKit YtbdbldhpglponaaDoorW.PrintWords YtbdbldhpglponaaDoorW.PrintLast YtbdbldhpglponaaDoorW.PrintMore
set_option linter.unusedVariables false
set_option linter.unusedSimpArgs false
/-! ### spec_l1Span: function 58 -/
mutual
def spec_l1Span.l0:Nat→List Int→Int→Int→Int→Option (Int)
 | 0,_,_,_,_=>none
 | k+1,x0,x1,x5,x6=>if x6<x5 then((spec_l1Span.f k x0 (wrap64 (x1+1))).bind fun t102=>(spec_l1Span.l0 k x0 t102 x5 (wrap64 (x6+1)))) else(some x1)
def spec_l1Span.f:Nat→List Int→Int→Option (Int)
 | 0,_,_=>none
 | k+1,l0,a1=>if 0≤a1 then(if a1<(l0.length:Int) then(spec_l1Span.l0 k l0 (wrap64 (a1+1)) (rd l0 a1) 0) else(none)) else(none)
end
set_option maxHeartbeats 8000000 in
set_option maxRecDepth 100000 in
theorem spec_l1Span.calls (k:Nat):∀ (U:Option Addr) (L:Nat) (l0:List Int) (j:Int) (r:Int) (w:World) (E:Kd.C (Kd.int .i64) w U l0.length l0) (G:l0.length≤L) (h:spec_l1Span.f k l0 j=some r),
  Calls Tryd.prog 58 #[.slice U l0.length L,.int .i64 j] w fun e w'=>e=.returned (.int .i64 r)∧Drawn0 w w':=by
 induction k using Nat.strongRecOn with
 | _ k ih =>
 intro U L l0 j r w E G h
 cases k with
 | zero=>exact absurd h (by simp[spec_l1Span.f])
 | succ k =>
 simp only[spec_l1Span.f] at h;have O:=Sd.mk E;have ab:=Sd.mk G;clear E G;have H:(if 0≤j then(if j<(l0.length:Int) then(spec_l1Span.l0 k l0 (wrap64 (j+1)) (rd l0 j) 0) else(none)) else(none))=some r:=h;clear h
 by_cases c3:0≤j
 ·rw[if_pos c3] at H
  have ac:decide (0≤j)=true:=decide_eq_true c3;clear c3
  by_cases c4:j<(l0.length:Int)
  ·rw[if_pos c4] at H
   have ad:decide (j<(l0.length:Int))=true:=decide_eq_true c4;clear c4;have H':=Sd.mk H;clear H;have z:0≤(j:Int):=dz;have D:j<(l0.length:Int):=dz;obtain⟨M,X,aa⟩:=Kd.at_int O.out j z D;cases X;replace z:=eq_true z;replace D:=eq_true D;go_enter Tryd.func58,Tryd.ntmps58;go_wp2
   go_loopg [1,6] k (fun kq v1 v6 w'=>∃ (o:Int) (m:Int),v1=.int .i64 o∧v6=.int .i64 m∧Sd (spec_l1Span.l0 kq l0 o (rd l0 j) m=some r)∧Sd (kq≤k)∧Drawn0 w w')
   case atStart=>exact⟨(wrap64 (j+1)),(0),(by first|rfl|(simp;done)|(simp[*];done)),(by first|rfl|(simp;done)|(simp[*];done)),H',⟨Nat.le_refl _⟩,by repeat (first|exact Drawn0.refl _|apply Drawn0.step)⟩
   case round =>
    clear H';obtain⟨o,m,rfl,rfl,Y,I,⟨m1,rfl⟩⟩:=hrel
    cases gk with
    | zero=>exact absurd Y.out (by simp[spec_l1Span.l0])
    | succ k1 =>
     have H:=Y.out;clear Y;simp only[spec_l1Span.l0] at H
     by_cases c5:m<(rd l0 j)
     ·rw[if_pos c5] at H
      have Z:decide (m<(rd l0 j))=true:=decide_eq_true c5;clear c5;obtain⟨J,A6,H⟩:=bs H;have H':=Sd.mk H;clear H;go_wp2_with (first|((with_reducible refine gate_callee (f:=58) rfl ?_);refine goesL_ (some 21) rfl rfl Tryd.func58 (by kernel_rfl) rfl #[.slice (some M) l0.length L,.int .i64 (wrap64 (o+1))] rfl az ?_;(with_reducible refine(ih k1 (by have:=I.out;omega) _ _ l0 (wrap64 (o+1)) J _ ?side1 ?side2 A6.out).mono ?_);(case side1=>exact Kd.Cz O.out);(case side2=>exact ab.out);rintro e w' ⟨rfl,⟨nd,rfl⟩⟩;refine⟨_,rfl,?_⟩))
      go_roundg k1
      case measure=>have:=I.out;omega
      case rel=>exact⟨(J),(wrap64 (m+1)),(by first|rfl|(simp;done)|(simp[*];done)),(by first|rfl|(simp;done)|(simp[*];done)),H',⟨by have:=I.out;omega⟩,by repeat (first|exact Drawn0.refl _|apply Drawn0.step)⟩
     ·rw[if_neg c5] at H
      have Z:decide (m<(rd l0 j))=false:=decide_eq_false c5;clear c5;obtain rfl:=Option.some.inj H;go_wp2;go_ret;exact⟨by first|rfl|(simp;done)|(simp[*];done),by repeat (first|exact Drawn0.refl _|apply Drawn0.step)⟩
  ·rw[if_neg c4] at H
   exact absurd H (by simp)
 ·rw[if_neg c3] at H
  exact absurd H (by simp)
end Go.Proofs.YtbdbldhpglponaaDoor.P