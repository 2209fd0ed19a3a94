/- One Go function comes to what its Lean function tells. -/
import Derived.Test.YtbdbldhpglponaaDoorP0
namespace Go.Proofs.YtbdbldhpglponaaDoor.P
open Go.RowKit YtbdbldhpglponaaDoorW.PrintWords YtbdbldhpglponaaDoorW.PrintLast YtbdbldhpglponaaDoorW.PrintMore
set_option linter.unusedVariables false
set_option linter.unusedSimpArgs false
/-! ### laws_markIntS: function 10 -/
def laws_markIntS.l0:Nat→List Int→Int→Int→Option (Int × List Int)
 | 0,_,_,_=>none
 | k+1,x0,x1,x5=>if x5<(x0.length:Int) then(if 0≤x5 then(laws_markIntS.l0 k (x0.set (x5:Int).toNat x1) (wrap64 (x1+1)) (wrap64 (x5+1))) else(none)) else(some (x1,x0))
def laws_markIntS.f (k:Nat)(l0:List Int)(a1:Int):Option (Int × List Int):=laws_markIntS.l0 k l0 a1 0
set_option maxHeartbeats 8000000 in
set_option maxRecDepth 100000 in
theorem laws_markIntS.calls (k:Nat)(E:Nat→Prop)(z:Value)(l0:List Int)(Y:Int)(O:Int)(U:List Int)(G w:World)(hB:Below G.heap.size G w)(ak:Kd.R (Kd.int .i64) 3 w G.heap.size E z l0)(h:laws_markIntS.f k l0 Y=some (O,U)) :
  Calls Tryd.prog 10 #[z,.int .i64 Y] w fun e w'=>e=.returned (.int .i64 O)∧Kd.R (Kd.int .i64) 3 w' G.heap.size (fun k_=>(E k_∨w.heap.size≤k_)) z U∧Below G.heap.size G w'∧Kept w w' (fun k_=>E k_):=by
 have al:=Sd.mk (show Kd.R (Kd.int .i64) 3 w G.heap.size (fun k_=>(E k_∨w.heap.size≤k_)) z l0 from Kd.R_mono ak (fun k_ hk=>(.inl hk)));have HK:=Sd.mk (Kept.refl w (fun k_=>E k_));have a2:=Sd.mk hB.size;have HB:=Sd.mk hB;clear hB;have H:(laws_markIntS.l0 k l0 Y 0)=some (O,U):=h;clear h;have H':=Sd.mk H;clear H;go_enter Tryd.func10,Tryd.ntmps10;go_wp2
 go_loopg [1,5] k (fun kq v1 v5 w'=>∃ (o:List Int) (D:Int) (j:Int),v1=.int .i64 D∧v5=.int .i64 j∧Sd (laws_markIntS.l0 kq o D j=some (O,U))∧Sd (kq≤k)∧Sd (Kd.R (Kd.int .i64) 3 w' G.heap.size (fun k_=>(E k_∨w.heap.size≤k_)) z o)∧Sd (Kept w w' (fun k_=>E k_))∧Sd (Below G.heap.size G w'))
 case atStart=>exact⟨(l0),(Y),(0),(by first|rfl|(simp;done)|(simp[*];done)),(by first|rfl|(simp;done)|(simp[*];done)),H',⟨Nat.le_refl _⟩,⟨Kd.Rz al.out⟩,⟨by repeat (first|(with_reducible first|exact HK.out|apply Kept.alloc|apply Kept.drewN|apply Kept.drew)|exact HK.out)⟩,⟨bz⟩⟩
 case round =>
  clear H';obtain⟨o,D,j,rfl,rfl,HA,aa,m,HK,HB⟩:=hrel
  cases gk with
  | zero=>exact absurd HA.out (by simp[laws_markIntS.l0])
  | succ k1 =>
   have H:=HA.out;clear HA;simp only[laws_markIntS.l0] at H
   by_cases c3:j<(o.length:Int)
   ·rw[if_pos c3] at H
    have ag:decide (j<(o.length:Int))=true:=decide_eq_true c3;clear c3
    by_cases c4:0≤j
    ·rw[if_pos c4] at H
     have a0:decide (0≤j)=true:=decide_eq_true c4;clear c4;obtain⟨L,I⟩:∃ y_:List Int,y_=(o.set (j:Int).toNat D):=⟨_,rfl⟩;replace H:(laws_markIntS.l0 k1 L (wrap64 (D+1)) (wrap64 (j+1)))=some (O,U):=hz I H;have Z:=Sd.mk I;clear I;have H':=Sd.mk H;clear H;obtain⟨a3,am,an⟩:=Kd.R_slice m.out;subst an;have p5:0≤(j:Int):=dz;have q5:(j:Int)<((o.length:Int):Int):=dz;obtain⟨J,a4,ab,ac,ao,a5,ad⟩:=Kd.R_form m.out (by omega)
     (first|cases ab|(injection ab with M ap aq;(first|subst M|(injection M with M;subst M));subst aq;clear ap))
     have ar:=Sd.mk ac;have a6:=Sd.mk ad;clear ac ao ad;have HMgo5:=Sd.mk (show (E J∨w.heap.size≤J) from(m.out.1 _ rfl));obtain⟨av,aw⟩:=Kd.R_celln 0 m.out (j:Int) p5 q5;replace p5:=eq_true p5;replace q5:=eq_true q5;have X:=Kd.R_putg m.out (j:Int) D;go_wp2_with (first|((with_reducible refine gate_store (t:=3) (p:=15) rfl ?_);refine store_event (t:=3) (p:=15) (v:=?vo_w8) (w1:=(wr.setCell ⟨J,(j:Int).toNat,none⟩ (.int .i64 D))) ?hg ?ho ?hn ?hr ?_;(case ho=>rfl);(case hg=>rfl);(case hn=>rfl);(case hr=>first|(go_simp;done)|(go_simp;rfl));intro w8 hw;have hg:wr.grownBy w8 (some J):=(by rw[hw];exact X.2);have ae:Kd.R (Kd.int .i64) 3 w8 G.heap.size (fun k_=>(E k_∨w.heap.size≤k_)) (.slice (some ⟨J,0,none⟩) o.length am) L:=(by rw[hw,Z.out];exact X.1);clear X;replace HB:=Sd.mk ((by rw[hw];exact below_set (HB.out) ar.out:Below G.heap.size G w8));replace HK:=Sd.mk (Kept.of_grown (S:=(fun k_=>E k_)) hg (by repeat (first|(with_reducible first|exact HK.out|apply Kept.alloc|apply Kept.drewN|apply Kept.drew)|exact HK.out)) (fun k_ e_=>(m.out.1 k_ e_)));replace m:=Sd.mk (ae);clear hg hw ae))
     go_roundg k1
     case measure=>have:=aa.out;omega
     case rel=>exact⟨(L),(wrap64 (D+1)),(wrap64 (j+1)),(by first|rfl|(simp;done)|(simp[*];done)),(by first|rfl|(simp;done)|(simp[*];done)),H',⟨by have:=aa.out;omega⟩,⟨Kd.Rz m.out⟩,⟨by repeat (first|(with_reducible first|exact HK.out|apply Kept.alloc|apply Kept.drewN|apply Kept.drew)|exact HK.out)⟩,⟨bz⟩⟩
    ·rw[if_neg c4] at H
     exact absurd H (by simp)
   ·rw[if_neg c3] at H
    have ag:decide (j<(o.length:Int))=false:=decide_eq_false c3;clear c3;simp only[Option.some.injEq,Prod.mk.injEq] at H;obtain⟨rfl,rfl⟩:=H;obtain⟨a7,a8,au⟩:=Kd.R_slice m.out;subst au;go_wp2;go_ret;exact⟨by first|rfl|(simp[errW_none,errW_some]<;>rfl)|(simp[*,errW_none,errW_some]<;>rfl),by(with_reducible repeat (first|apply Kd.R_alloc|apply Kd.R_drewN|apply Kd.R_drew));exact m.out,bz,by repeat (first|(with_reducible first|exact HK.out|apply Kept.alloc|apply Kept.drewN|apply Kept.drew)|exact HK.out)⟩
end Go.Proofs.YtbdbldhpglponaaDoor.P