/- One Go function comes to what its Lean function tells. -/
import Derived.Test.YtbdbldhpglponaaDoorP0
namespace Go.Proofs.YtbdbldhpglponaaDoor.P
open Go.RowKit YtbdbldhpglponaaDoorW.PrintWords YtbdbldhpglponaaDoorW.PrintLast YtbdbldhpglponaaDoorW.PrintMore
set_option linter.unusedVariables false
set_option linter.unusedSimpArgs false
/-! ### laws_toIntS: function 19 -/
def laws_toIntS.l0:Nat→List Int→List Int→Int→Option (List Int)
 | 0,_,_,_=>none
 | k+1,x0,x3,x4=>if x4<(x0.length:Int) then(if 0≤x4 then(if x4<(x3.length:Int) then(laws_toIntS.l0 k x0 (x3.set (x4:Int).toNat (rd x0 x4)) (wrap64 (x4+1))) else(none)) else(none)) else(some x3)
def laws_toIntS.f (k:Nat)(l0:List Int):Option (List Int):=if 0≤(l0.length:Int) then(if((l0.length:Int):Int).toNat≤35184372088832 then(laws_toIntS.l0 k l0 (List.replicate ((l0.length:Int):Int).toNat 0) 0) else(none)) else(none)
set_option maxHeartbeats 8000000 in
set_option maxRecDepth 100000 in
theorem laws_toIntS.calls (k:Nat)(A0:Option Addr)(c0:Nat)(l0:List Int)(r:List Int)(w:World)(ac:Kd.C (Kd.int .i64) w A0 l0.length l0)(ad:l0.length≤c0)(h:laws_toIntS.f k l0=some r) :
  Calls Tryd.prog 19 #[.slice A0 l0.length c0] w fun e w'=>∃ ae:Value,e=.returned (ae)∧Kd.R (Kd.int .i64) 3 w' w.heap.size (fun _=>True) ae r∧Below w.heap.size w w':=by
 have au:=Sd.mk ac;have bc:=Sd.mk ad;clear ac ad;have HB:=Sd.mk (Below.refl w.heap.size w);have H:(if 0≤(l0.length:Int) then(if((l0.length:Int):Int).toNat≤35184372088832 then(laws_toIntS.l0 k l0 (List.replicate ((l0.length:Int):Int).toNat 0) 0) else(none)) else(none))=some r:=h;clear h
 by_cases c2:0≤(l0.length:Int)
 ·rw[if_pos c2] at H
  have a5:=eq_true c2;have a6:decide (0≤(l0.length:Int))=true:=decide_eq_true c2;clear c2
  by_cases c3:((l0.length:Int):Int).toNat≤35184372088832
  ·rw[if_pos c3] at H
   have a7:=eq_true c3;have a8:decide (((l0.length:Int):Int).toNat≤35184372088832)=true:=decide_eq_true c3;clear c3;obtain⟨X,D⟩:∃ y_:List Int,y_=(List.replicate ((l0.length:Int):Int).toNat 0):=⟨_,rfl⟩;replace H:(laws_toIntS.l0 k l0 X 0)=some r:=hz D H;have O:=Sd.mk D;clear D;have H':=Sd.mk H;clear H;go_enter Tryd.func19,Tryd.ntmps19;go_wp2_with (first|((with_reducible refine gate_dst (N:=7) rfl ?_);refine Kd.R_make (Kd.int .i64) _ 3 rfl (N:=7) rfl 22 _ _ rfl (l0.length:Int) rfl rfl Tryd.underlying22 (.int .i64 0) 8 info3 rfl (by decide) (by omega) 0 (ok:=fun _=>True) (okp:=fun _=>True) rfl (fun _ hk=>hk) trivial (dz) (Nat.le_trans (Nat.mul_le_mul_right _ (dz:(l0.length:Int).toNat≤35184372088832)) (by omega)) (Below.refl _ _) (Nat.le_refl _) ?_;intro ak w4 G hb av hnew_;clear av hnew_;(first|rw[← O.out] at G|(simp only[Int.reduceToNat] at G;rw[← O.out] at G));have aa:=Sd.mk (Kd.R_lower G (below_size bz));replace HB:=Sd.mk (below_step bz hb);clear hb G))
   go_loopg [4] k (fun kq v4 w'=>∃ (m:List Int) (j:Int),v4=.int .i64 j∧Sd (laws_toIntS.l0 kq l0 m j=some r)∧Sd (kq≤k)∧Sd (Kd.R (Kd.int .i64) 3 w' w.heap.size (fun _=>True) ak m)∧Sd (Below w.heap.size w w'))
   case atStart=>exact⟨(X),(0),(by first|rfl|(simp;done)|(simp[*];done)),H',⟨Nat.le_refl _⟩,⟨Kd.Rz aa.out⟩,⟨bz⟩⟩
   case round =>
    clear H';obtain⟨m,j,rfl,HA,af,o,HB⟩:=hrel
    cases gk with
    | zero=>exact absurd HA.out (by simp[laws_toIntS.l0])
    | succ k1 =>
     have H:=HA.out;clear HA;simp only[laws_toIntS.l0] at H
     by_cases c6:j<(l0.length:Int)
     ·rw[if_pos c6] at H
      have am:decide (j<(l0.length:Int))=true:=decide_eq_true c6;clear c6
      by_cases c7:0≤j
      ·rw[if_pos c7] at H
       have ba:decide (0≤j)=true:=decide_eq_true c7;clear c7
       by_cases c8:j<(m.length:Int)
       ·rw[if_pos c8] at H
        have bb:decide (j<(m.length:Int))=true:=decide_eq_true c8;clear c8;obtain⟨I,E⟩:∃ y_:List Int,y_=(m.set (j:Int).toNat (rd l0 j)):=⟨_,rfl⟩;replace H:(laws_toIntS.l0 k1 l0 I (wrap64 (j+1)))=some r:=hz E H;have ab:=Sd.mk E;clear E;have H':=Sd.mk H;clear H;have J:0≤(j:Int):=dz;have L:j<(l0.length:Int):=dz;obtain⟨a2,an,z⟩:=Kd.at_int au.out j J L;cases an;replace z:=(HB.out.cell (World.block_lt_of_cell? w _ z)).trans z;replace J:=eq_true J;replace L:=eq_true L;have p9:0≤(j:Int):=dz;have q9:(j:Int)<((m.length:Int):Int):=dz;obtain⟨Y,aw,ag,ah,ax,bd,ai⟩:=Kd.R_form o.out (by omega)
        (first|cases ag|(injection ag with U ay a0;(first|subst U|(injection U with U;subst U));subst a0;clear ay))
        have a1:=Sd.mk ah;have be:=Sd.mk ai;clear ah ax ai;obtain⟨a3,a4⟩:=Kd.R_celln 0 o.out (j:Int) p9 q9;replace p9:=eq_true p9;replace q9:=eq_true q9;have M:=Kd.R_putg o.out (j:Int) (rd l0 j);go_wp2_with (first|((with_reducible refine gate_store (t:=3) (p:=20) rfl ?_);refine store_event (t:=3) (p:=20) (v:=?vo_w11) (w1:=(wr.setCell ⟨Y,(j:Int).toNat,none⟩ (.int .i64 (rd l0 j)))) ?hg ?ho ?hn ?hr ?_;(case ho=>rfl);(case hg=>rfl);(case hn=>rfl);(case hr=>first|(go_simp;done)|(go_simp;rfl));intro Z hw;have hg:wr.grownBy Z (some Y):=(by rw[hw];exact M.2);have aj:Kd.R (Kd.int .i64) 3 Z w.heap.size (fun _=>True) (.slice (some ⟨Y,0,none⟩) m.length aw) I:=(by rw[hw,ab.out];exact M.1);clear M;replace o:=Sd.mk (aj);replace HB:=Sd.mk ((by rw[hw];exact below_set (HB.out) a1.out:Below w.heap.size w Z));clear hg hw aj))
        go_roundg k1
        case measure=>have:=af.out;omega
        case rel=>exact⟨(I),(wrap64 (j+1)),(by first|rfl|(simp;done)|(simp[*];done)),H',⟨by have:=af.out;omega⟩,⟨Kd.Rz o.out⟩,⟨bz⟩⟩
       ·rw[if_neg c8] at H
        exact absurd H (by simp)
      ·rw[if_neg c7] at H
       exact absurd H (by simp)
     ·rw[if_neg c6] at H
      have am:decide (j<(l0.length:Int))=false:=decide_eq_false c6;clear c6;obtain rfl:=Option.some.inj H;go_wp2;go_ret;exact⟨_,by first|rfl|(simp[errW_none,errW_some]<;>rfl)|(simp[*,errW_none,errW_some]<;>rfl),by(with_reducible repeat (first|apply Kd.R_alloc|apply Kd.R_drewN|apply Kd.R_drew));exact o.out,bz⟩
  ·rw[if_neg c3] at H
   exact absurd H (by simp)
 ·rw[if_neg c2] at H
  exact absurd H (by simp)
end Go.Proofs.YtbdbldhpglponaaDoor.P