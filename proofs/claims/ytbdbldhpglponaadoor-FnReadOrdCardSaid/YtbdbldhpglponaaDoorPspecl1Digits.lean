/- One Go function comes to what its Lean function tells. -/
import Derived.Test.YtbdbldhpglponaaDoorP0
namespace Go.Proofs.YtbdbldhpglponaaDoor.P
open Go.RowKit YtbdbldhpglponaaDoorW.PrintWords YtbdbldhpglponaaDoorW.PrintLast YtbdbldhpglponaaDoorW.PrintMore
set_option linter.unusedVariables false
set_option linter.unusedSimpArgs false
/-! ### spec_l1Digits: function 31 -/
def spec_l1Digits.l0:Nat→ByteArray→Int→Int→Int→Option (Int × Int)
 | 0,_,_,_,_=>none
 | k+1,x0,x1,x6,x7=>if x1<(x0.size:Int) then(if 0≤x1 then(if(bt x0 x1)≥48 then(if(bt x0 x1)≤57 then(if x1<(wrap64 (x7+4)) then(spec_l1Digits.l0 k x0 (wrap64 (x1+1)) (wrap64 ((wrap64 (10*x6))+(((bt x0 x1)-48) % 256))) x7) else(if x1=x7 then(some ((-1),x7)) else(if 0≤x7 then(if x7<(x0.size:Int) then(if(bt x0 x7)=48 then(some ((-1),x7)) else(some (x6,x1))) else(none)) else(none)))) else(if x1=x7 then(some ((-1),x7)) else(if 0≤x7 then(if x7<(x0.size:Int) then(if(bt x0 x7)=48 then(some ((-1),x7)) else(some (x6,x1))) else(none)) else(none)))) else(if x1=x7 then(some ((-1),x7)) else(if 0≤x7 then(if x7<(x0.size:Int) then(if(bt x0 x7)=48 then(some ((-1),x7)) else(some (x6,x1))) else(none)) else(none)))) else(none)) else(if x1=x7 then(some ((-1),x7)) else(if 0≤x7 then(if x7<(x0.size:Int) then(if(bt x0 x7)=48 then(some ((-1),x7)) else(some (x6,x1))) else(none)) else(none)))
def spec_l1Digits.f (k:Nat)(a0:ByteArray)(a1:Int):Option (Int × Int):=spec_l1Digits.l0 k a0 a1 0 a1
set_option maxHeartbeats 8000000 in
set_option maxRecDepth 100000 in
theorem spec_l1Digits.calls (k:Nat)(m:ByteArray)(o:Int)(r1:Int)(r2:Int)(w:World)(h:spec_l1Digits.f k m o=some (r1,r2)) :
  Calls Tryd.prog 31 #[.string m,.int .i64 o] w fun e w'=>e=.returned (.tuple #[.int .i64 r1,.int .i64 r2])∧Drawn0 w w':=by
 have H:(spec_l1Digits.l0 k m o 0 o)=some (r1,r2):=h;clear h;have H':=Sd.mk H;clear H;go_enter Tryd.func31,Tryd.ntmps31;go_wp2
 go_loopg [1,6] k (fun kq v1 v6 w'=>∃ (j:Int) (ab:Int),v1=.int .i64 j∧v6=.int .i64 ab∧Sd (spec_l1Digits.l0 kq m j ab o=some (r1,r2))∧Sd (kq≤k)∧Drawn0 w w')
 case atStart=>exact⟨(o),(0),(by first|rfl|(simp;done)|(simp[*];done)),(by first|rfl|(simp;done)|(simp[*];done)),H',⟨Nat.le_refl _⟩,by repeat (first|exact Drawn0.refl _|apply Drawn0.step)⟩
 case round =>
  clear H';obtain⟨j,ab,rfl,rfl,HA,bf,⟨m1,rfl⟩⟩:=hrel
  cases gk with
  | zero=>exact absurd HA.out (by simp[spec_l1Digits.l0])
  | succ k1 =>
   have H:=HA.out;clear HA;simp only[spec_l1Digits.l0] at H
   by_cases c3:j<(m.size:Int)
   ·rw[if_pos c3] at H
    have bk:decide (j<(m.size:Int))=true:=decide_eq_true c3;clear c3
    by_cases c4:0≤j
    ·rw[if_pos c4] at H
     have b6:decide (0≤j)=true:=decide_eq_true c4;clear c4
     by_cases c6:(bt m j)≥48
     ·rw[if_pos c6] at H
      have bl:decide (48≤(bt m j))=true:=decide_eq_true c6;clear c6
      by_cases c8:(bt m j)≤57
      ·rw[if_pos c8] at H
       have bm:decide ((bt m j)≤57)=true:=decide_eq_true c8;clear c8
       by_cases c9:j<(wrap64 (o+4))
       ·rw[if_pos c9] at H
        have bn:decide (j<(wrap64 (o+4)))=true:=decide_eq_true c9;clear c9;have H':=Sd.mk H;clear H;have z:0≤(j:Int):=dz;have D:j<(m.size:Int):=dz;have I:=bt_at m j;replace z:=eq_true z;replace D:=eq_true D;have E:0≤(j:Int):=dz;have G:j<(m.size:Int):=dz;have aa:=bt_at m j;replace E:=eq_true E;replace G:=eq_true G;have bg:0≤(j:Int):=dz;have bh:j<(m.size:Int):=dz;have b7:=bt_at m j;replace bg:=eq_true bg;replace bh:=eq_true bh;go_wp2
        go_roundg k1
        case measure=>have:=bf.out;omega
        case rel=>exact⟨(wrap64 (j+1)),(wrap64 ((wrap64 (10*ab))+(((bt m j)-48) % 256))),(by first|rfl|(simp;done)|(simp[*];done)),(by first|rfl|(simp;done)|(simp[*];done)),H',⟨by have:=bf.out;omega⟩,by repeat (first|exact Drawn0.refl _|apply Drawn0.step)⟩
       ·rw[if_neg c9] at H
        have bn:decide (j<(wrap64 (o+4)))=false:=decide_eq_false c9;clear c9
        by_cases J:j=o
        ·rw[if_pos J] at H
         have aw:(j == o)=true:=beq_iff_eq.mpr J;have ax:(j != o)=false:=bne_eq_false_iff_eq.mpr J;clear J;simp only[Option.some.injEq,Prod.mk.injEq] at H;obtain⟨rfl,rfl⟩:=H;have z:0≤(j:Int):=dz;have D:j<(m.size:Int):=dz;have I:=bt_at m j;replace z:=eq_true z;replace D:=eq_true D;have E:0≤(j:Int):=dz;have G:j<(m.size:Int):=dz;have aa:=bt_at m j;replace E:=eq_true E;replace G:=eq_true G;go_wp2;go_ret2;exact⟨by first|rfl|(simp;done)|(simp[*];done),by repeat (first|exact Drawn0.refl _|apply Drawn0.step)⟩
        ·rw[if_neg J] at H
         have aw:(j == o)=false:=beq_eq_false_iff_ne.mpr J;have ax:(j != o)=true:=bne_iff_ne.mpr J
         by_cases ak:0≤o
         ·rw[if_pos ak] at H
          have bu:decide (0≤o)=true:=decide_eq_true ak;clear ak
          by_cases al:o<(m.size:Int)
          ·rw[if_pos al] at H
           have bv:decide (o<(m.size:Int))=true:=decide_eq_true al;clear al
           by_cases L:(bt m o)=48
           ·rw[if_pos L] at H
            have ay:((bt m o) == 48)=true:=beq_iff_eq.mpr L;have a2:((bt m o) != 48)=false:=bne_eq_false_iff_eq.mpr L;clear L;simp only[Option.some.injEq,Prod.mk.injEq] at H;obtain⟨rfl,rfl⟩:=H;have z:0≤(j:Int):=dz;have D:j<(m.size:Int):=dz;have I:=bt_at m j;replace z:=eq_true z;replace D:=eq_true D;have E:0≤(j:Int):=dz;have G:j<(m.size:Int):=dz;have aa:=bt_at m j;replace E:=eq_true E;replace G:=eq_true G;have ac:0≤(o:Int):=dz;have ad:o<(m.size:Int):=dz;have bo:=bt_at m o;replace ac:=eq_true ac;replace ad:=eq_true ad;go_wp2;go_ret2;exact⟨by first|rfl|(simp;done)|(simp[*];done),by repeat (first|exact Drawn0.refl _|apply Drawn0.step)⟩
           ·rw[if_neg L] at H
            have ay:((bt m o) == 48)=false:=beq_eq_false_iff_ne.mpr L;have a2:((bt m o) != 48)=true:=bne_iff_ne.mpr L;simp only[Option.some.injEq,Prod.mk.injEq] at H;obtain⟨rfl,rfl⟩:=H;have z:0≤(j:Int):=dz;have D:j<(m.size:Int):=dz;have I:=bt_at m j;replace z:=eq_true z;replace D:=eq_true D;have E:0≤(j:Int):=dz;have G:j<(m.size:Int):=dz;have aa:=bt_at m j;replace E:=eq_true E;replace G:=eq_true G;have ac:0≤(o:Int):=dz;have ad:o<(m.size:Int):=dz;have bo:=bt_at m o;replace ac:=eq_true ac;replace ad:=eq_true ad;go_wp2;go_ret2;exact⟨by first|rfl|(simp;done)|(simp[*];done),by repeat (first|exact Drawn0.refl _|apply Drawn0.step)⟩
          ·rw[if_neg al] at H
           exact absurd H (by simp)
         ·rw[if_neg ak] at H
          exact absurd H (by simp)
      ·rw[if_neg c8] at H
       have bm:decide ((bt m j)≤57)=false:=decide_eq_false c8;clear c8
       by_cases M:j=o
       ·rw[if_pos M] at H
        have a3:(j == o)=true:=beq_iff_eq.mpr M;have a4:(j != o)=false:=bne_eq_false_iff_eq.mpr M;clear M;simp only[Option.some.injEq,Prod.mk.injEq] at H;obtain⟨rfl,rfl⟩:=H;have z:0≤(j:Int):=dz;have D:j<(m.size:Int):=dz;have I:=bt_at m j;replace z:=eq_true z;replace D:=eq_true D;have E:0≤(j:Int):=dz;have G:j<(m.size:Int):=dz;have aa:=bt_at m j;replace E:=eq_true E;replace G:=eq_true G;go_wp2;go_ret2;exact⟨by first|rfl|(simp;done)|(simp[*];done),by repeat (first|exact Drawn0.refl _|apply Drawn0.step)⟩
       ·rw[if_neg M] at H
        have a3:(j == o)=false:=beq_eq_false_iff_ne.mpr M;have a4:(j != o)=true:=bne_iff_ne.mpr M
        by_cases am:0≤o
        ·rw[if_pos am] at H
         have bw:decide (0≤o)=true:=decide_eq_true am;clear am
         by_cases an:o<(m.size:Int)
         ·rw[if_pos an] at H
          have bx:decide (o<(m.size:Int))=true:=decide_eq_true an;clear an
          by_cases O:(bt m o)=48
          ·rw[if_pos O] at H
           have a5:((bt m o) == 48)=true:=beq_iff_eq.mpr O;have a6:((bt m o) != 48)=false:=bne_eq_false_iff_eq.mpr O;clear O;simp only[Option.some.injEq,Prod.mk.injEq] at H;obtain⟨rfl,rfl⟩:=H;have z:0≤(j:Int):=dz;have D:j<(m.size:Int):=dz;have I:=bt_at m j;replace z:=eq_true z;replace D:=eq_true D;have E:0≤(j:Int):=dz;have G:j<(m.size:Int):=dz;have aa:=bt_at m j;replace E:=eq_true E;replace G:=eq_true G;have ae:0≤(o:Int):=dz;have af:o<(m.size:Int):=dz;have bp:=bt_at m o;replace ae:=eq_true ae;replace af:=eq_true af;go_wp2;go_ret2;exact⟨by first|rfl|(simp;done)|(simp[*];done),by repeat (first|exact Drawn0.refl _|apply Drawn0.step)⟩
          ·rw[if_neg O] at H
           have a5:((bt m o) == 48)=false:=beq_eq_false_iff_ne.mpr O;have a6:((bt m o) != 48)=true:=bne_iff_ne.mpr O;simp only[Option.some.injEq,Prod.mk.injEq] at H;obtain⟨rfl,rfl⟩:=H;have z:0≤(j:Int):=dz;have D:j<(m.size:Int):=dz;have I:=bt_at m j;replace z:=eq_true z;replace D:=eq_true D;have E:0≤(j:Int):=dz;have G:j<(m.size:Int):=dz;have aa:=bt_at m j;replace E:=eq_true E;replace G:=eq_true G;have ae:0≤(o:Int):=dz;have af:o<(m.size:Int):=dz;have bp:=bt_at m o;replace ae:=eq_true ae;replace af:=eq_true af;go_wp2;go_ret2;exact⟨by first|rfl|(simp;done)|(simp[*];done),by repeat (first|exact Drawn0.refl _|apply Drawn0.step)⟩
         ·rw[if_neg an] at H
          exact absurd H (by simp)
        ·rw[if_neg am] at H
         exact absurd H (by simp)
     ·rw[if_neg c6] at H
      have bl:decide (48≤(bt m j))=false:=decide_eq_false c6;clear c6
      by_cases U:j=o
      ·rw[if_pos U] at H
       have a7:(j == o)=true:=beq_iff_eq.mpr U;have a8:(j != o)=false:=bne_eq_false_iff_eq.mpr U;clear U;simp only[Option.some.injEq,Prod.mk.injEq] at H;obtain⟨rfl,rfl⟩:=H;have z:0≤(j:Int):=dz;have D:j<(m.size:Int):=dz;have I:=bt_at m j;replace z:=eq_true z;replace D:=eq_true D;go_wp2;go_ret2;exact⟨by first|rfl|(simp;done)|(simp[*];done),by repeat (first|exact Drawn0.refl _|apply Drawn0.step)⟩
      ·rw[if_neg U] at H
       have a7:(j == o)=false:=beq_eq_false_iff_ne.mpr U;have a8:(j != o)=true:=bne_iff_ne.mpr U
       by_cases ao:0≤o
       ·rw[if_pos ao] at H
        have b0:decide (0≤o)=true:=decide_eq_true ao;clear ao
        by_cases ap:o<(m.size:Int)
        ·rw[if_pos ap] at H
         have b1:decide (o<(m.size:Int))=true:=decide_eq_true ap;clear ap
         by_cases X:(bt m o)=48
         ·rw[if_pos X] at H
          have a9:((bt m o) == 48)=true:=beq_iff_eq.mpr X;have ba:((bt m o) != 48)=false:=bne_eq_false_iff_eq.mpr X;clear X;simp only[Option.some.injEq,Prod.mk.injEq] at H;obtain⟨rfl,rfl⟩:=H;have z:0≤(j:Int):=dz;have D:j<(m.size:Int):=dz;have I:=bt_at m j;replace z:=eq_true z;replace D:=eq_true D;have ag:0≤(o:Int):=dz;have ah:o<(m.size:Int):=dz;have bq:=bt_at m o;replace ag:=eq_true ag;replace ah:=eq_true ah;go_wp2;go_ret2;exact⟨by first|rfl|(simp;done)|(simp[*];done),by repeat (first|exact Drawn0.refl _|apply Drawn0.step)⟩
         ·rw[if_neg X] at H
          have a9:((bt m o) == 48)=false:=beq_eq_false_iff_ne.mpr X;have ba:((bt m o) != 48)=true:=bne_iff_ne.mpr X;simp only[Option.some.injEq,Prod.mk.injEq] at H;obtain⟨rfl,rfl⟩:=H;have z:0≤(j:Int):=dz;have D:j<(m.size:Int):=dz;have I:=bt_at m j;replace z:=eq_true z;replace D:=eq_true D;have ag:0≤(o:Int):=dz;have ah:o<(m.size:Int):=dz;have bq:=bt_at m o;replace ag:=eq_true ag;replace ah:=eq_true ah;go_wp2;go_ret2;exact⟨by first|rfl|(simp;done)|(simp[*];done),by repeat (first|exact Drawn0.refl _|apply Drawn0.step)⟩
        ·rw[if_neg ap] at H
         exact absurd H (by simp)
       ·rw[if_neg ao] at H
        exact absurd H (by simp)
    ·rw[if_neg c4] at H
     exact absurd H (by simp)
   ·rw[if_neg c3] at H
    have bk:decide (j<(m.size:Int))=false:=decide_eq_false c3;clear c3
    by_cases Y:j=o
    ·rw[if_pos Y] at H
     have bb:(j == o)=true:=beq_iff_eq.mpr Y;have bc:(j != o)=false:=bne_eq_false_iff_eq.mpr Y;clear Y;simp only[Option.some.injEq,Prod.mk.injEq] at H;obtain⟨rfl,rfl⟩:=H;go_wp2;go_ret2;exact⟨by first|rfl|(simp;done)|(simp[*];done),by repeat (first|exact Drawn0.refl _|apply Drawn0.step)⟩
    ·rw[if_neg Y] at H
     have bb:(j == o)=false:=beq_eq_false_iff_ne.mpr Y;have bc:(j != o)=true:=bne_iff_ne.mpr Y
     by_cases aq:0≤o
     ·rw[if_pos aq] at H
      have b2:decide (0≤o)=true:=decide_eq_true aq;clear aq
      by_cases ar:o<(m.size:Int)
      ·rw[if_pos ar] at H
       have b3:decide (o<(m.size:Int))=true:=decide_eq_true ar;clear ar
       by_cases Z:(bt m o)=48
       ·rw[if_pos Z] at H
        have bd:((bt m o) == 48)=true:=beq_iff_eq.mpr Z;have be:((bt m o) != 48)=false:=bne_eq_false_iff_eq.mpr Z;clear Z;simp only[Option.some.injEq,Prod.mk.injEq] at H;obtain⟨rfl,rfl⟩:=H;have ai:0≤(o:Int):=dz;have aj:o<(m.size:Int):=dz;have br:=bt_at m o;replace ai:=eq_true ai;replace aj:=eq_true aj;go_wp2;go_ret2;exact⟨by first|rfl|(simp;done)|(simp[*];done),by repeat (first|exact Drawn0.refl _|apply Drawn0.step)⟩
       ·rw[if_neg Z] at H
        have bd:((bt m o) == 48)=false:=beq_eq_false_iff_ne.mpr Z;have be:((bt m o) != 48)=true:=bne_iff_ne.mpr Z;simp only[Option.some.injEq,Prod.mk.injEq] at H;obtain⟨rfl,rfl⟩:=H;have ai:0≤(o:Int):=dz;have aj:o<(m.size:Int):=dz;have br:=bt_at m o;replace ai:=eq_true ai;replace aj:=eq_true aj;go_wp2;go_ret2;exact⟨by first|rfl|(simp;done)|(simp[*];done),by repeat (first|exact Drawn0.refl _|apply Drawn0.step)⟩
      ·rw[if_neg ar] at H
       exact absurd H (by simp)
     ·rw[if_neg aq] at H
      exact absurd H (by simp)
end Go.Proofs.YtbdbldhpglponaaDoor.P