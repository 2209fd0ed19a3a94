/- One Go function comes to what its Lean function tells. -/
import Derived.Test.YtfblcanijhnhmaaP0
import Derived.Test.YtfblcanijhnhmaaPspecl1Compare
import Derived.Test.YtfblcanijhnhmaaPspecl1In
namespace Go.Proofs.Ytfblcanijhnhmaa.P
open Go.RowKit YtfblcanijhnhmaaW.PrintWords YtfblcanijhnhmaaW.PrintLast YtfblcanijhnhmaaW.PrintMore
set_option linter.unusedVariables false
set_option linter.unusedSimpArgs false
/-! ### spec_l1End: function 64 -/
mutual
def spec_l1End.j0:Nat→List Int→Int→Bool→Option (Int)
 | 0,_,_,_=>none
 | k+1,x0,x1,x20=>if x20=true then(some (-1)) else(if 0≤x1 then(if x1<(x0.length:Int) then(spec_l1End.l0 k x0 (wrap64 (x1+1)) (rd x0 x1) (([]:List Int)) 0) else(none)) else(none))
def spec_l1End.l0:Nat→List Int→Int→Int→List Int→Int→Option (Int)
 | 0,_,_,_,_,_=>none
 | k+1,x0,x1,x5,x6,x7=>if x7<x5 then(if x1≥(x0.length:Int) then(spec_l1End.j2 k x0 x1 x5 x6 x7 true) else(if 0≤x1 then(if x1<(x0.length:Int) then((spec_l1In.f (rd x0 x1) 1 9999).bind fun t157=>(spec_l1End.j2 k x0 x1 x5 x6 x7 (!t157))) else(none)) else(none))) else(some x1)
def spec_l1End.j2:Nat→List Int→Int→Int→List Int→Int→Bool→Option (Int)
 | 0,_,_,_,_,_,_=>none
 | k+1,x0,x1,x5,x6,x7,x44=>if x44=true then(some (-1)) else((spec_l1End.f k x0 (wrap64 (x1+1))).bind fun t158=>(if t158<0 then(some (-1)) else(if x7>0 then(if 0≤(wrap64 (x1+1)) then(if(wrap64 (x1+1))≤t158 then(if t158≤(x0.length:Int) then((spec_l1Compare.f k ((x0.take (t158:Int).toNat).drop ((wrap64 (x1+1)):Int).toNat) x6).bind fun t164=>(if t164≥0 then(some (-1)) else(spec_l1End.l0 k x0 t158 x5 ((x0.take (t158:Int).toNat).drop ((wrap64 (x1+1)):Int).toNat) (wrap64 (x7+1))))) else(none)) else(none)) else(none)) else(if 0≤(wrap64 (x1+1)) then(if(wrap64 (x1+1))≤t158 then(if t158≤(x0.length:Int) then(spec_l1End.l0 k x0 t158 x5 ((x0.take (t158:Int).toNat).drop ((wrap64 (x1+1)):Int).toNat) (wrap64 (x7+1))) else(none)) else(none)) else(none)))))
def spec_l1End.f:Nat→List Int→Int→Option (Int)
 | 0,_,_=>none
 | k+1,l0,a1=>if a1≥(l0.length:Int) then(spec_l1End.j0 k l0 a1 true) else(if 0≤a1 then(if a1<(l0.length:Int) then((spec_l1In.f (rd l0 a1) 0 60).bind fun t151=>(spec_l1End.j0 k l0 a1 (!t151))) else(none)) else(none))
end
theorem spec_l1End.mono_l:∀ k,(∀ y0 y1,LeO (spec_l1End.f k y0 y1) (spec_l1End.f (k+1) y0 y1))∧(∀ y0 y1 y2,LeO (spec_l1End.j0 k y0 y1 y2) (spec_l1End.j0 (k+1) y0 y1 y2))∧(∀ y0 y1 y2 y3 y4,LeO (spec_l1End.l0 k y0 y1 y2 y3 y4) (spec_l1End.l0 (k+1) y0 y1 y2 y3 y4))∧(∀ y0 y1 y2 y3 y4 y5,LeO (spec_l1End.j2 k y0 y1 y2 y3 y4 y5) (spec_l1End.j2 (k+1) y0 y1 y2 y3 y4 y5))
 | 0=>⟨fun _ _ r h=>by simp[spec_l1End.f] at h,fun _ _ _ r h=>by simp[spec_l1End.j0] at h,fun _ _ _ _ _ r h=>by simp[spec_l1End.l0] at h,fun _ _ _ _ _ _ r h=>by simp[spec_l1End.j2] at h⟩
 | k+1=>by
  obtain⟨ih0,ih1,ih2,ih3⟩:=spec_l1End.mono_l k
  refine⟨?_,?_,?_,?_⟩
  ·intro y0 y1
   unfold spec_l1End.f
   repeat' first|(with_reducible first|exact ih0 _ _|exact ih1 _ _ _|exact LeO.refl _|exact LeO.none _|refine LeO.ite ?_ ?_|refine LeO.bind ?_ (fun _=>?_))|exact ih0 _ _|exact ih1 _ _ _|exact LeO.none _|refine LeO.ite ?_ ?_|refine LeO.bind ?_ (fun _=>?_)
  ·intro y0 y1 y2
   unfold spec_l1End.j0
   repeat' first|(with_reducible first|exact ih1 _ _ _|exact ih2 _ _ _ _ _|exact LeO.refl _|exact LeO.none _|refine LeO.ite ?_ ?_|refine LeO.bind ?_ (fun _=>?_))|exact ih1 _ _ _|exact ih2 _ _ _ _ _|exact LeO.none _|refine LeO.ite ?_ ?_|refine LeO.bind ?_ (fun _=>?_)
  ·intro y0 y1 y2 y3 y4
   unfold spec_l1End.l0
   repeat' first|(with_reducible first|exact ih2 _ _ _ _ _|exact ih3 _ _ _ _ _ _|exact LeO.refl _|exact LeO.none _|refine LeO.ite ?_ ?_|refine LeO.bind ?_ (fun _=>?_))|exact ih2 _ _ _ _ _|exact ih3 _ _ _ _ _ _|exact LeO.none _|refine LeO.ite ?_ ?_|refine LeO.bind ?_ (fun _=>?_)
  ·intro y0 y1 y2 y3 y4 y5
   unfold spec_l1End.j2
   repeat' first|(with_reducible first|exact ih0 _ _|exact ih2 _ _ _ _ _|exact ih3 _ _ _ _ _ _|exact spec_l1Compare.mono _ _ _|exact LeO.refl _|exact LeO.none _|refine LeO.ite ?_ ?_|refine LeO.bind ?_ (fun _=>?_))|exact ih0 _ _|exact ih2 _ _ _ _ _|exact ih3 _ _ _ _ _ _|exact spec_l1Compare.mono _ _ _|exact LeO.none _|refine LeO.ite ?_ ?_|refine LeO.bind ?_ (fun _=>?_)
theorem spec_l1End.mono:∀ a0 a1 k,LeO (spec_l1End.f k a0 a1) (spec_l1End.f (k+1) a0 a1):=by
 intro a0 a1 k;obtain⟨ih0,ih1,ih2,ih3⟩:=spec_l1End.mono_l k;exact ih0 a0 a1
set_option maxHeartbeats 8000000 in
set_option maxRecDepth 100000 in
theorem spec_l1End.calls (k:Nat):∀ (P0_:Nat→Prop) (A0:Option Addr) (c0:Nat) (l0:List Int) (a1:Int) (r:Int) (w:World) (hs0:Kd.V (Kd.int .i64) 3 w w.heap.size (fun k_=>P0_ k_) (.slice A0 l0.length c0) l0) (h:spec_l1End.f k l0 a1=some r),
  Calls Try.prog 64 #[.slice A0 l0.length c0,.int .i64 a1] w fun e w'=>e=.returned (.int .i64 r)∧Below w.heap.size w w':=by
 induction k using Nat.strongRecOn with
 | _ k ih =>
 intro P0_ A0 c0 l0 a1 r w hs0 h
 cases k with
 | zero=>exact absurd h (by simp[spec_l1End.f])
 | succ k =>
 simp only[spec_l1End.f] at h;have HO0:=Sd.mk (show Kd.V (Kd.int .i64) 3 w w.heap.size (fun k_=>(P0_ k_∨w.heap.size≤k_)) (.slice A0 l0.length c0) l0 from Kd.V_mono hs0 (fun k_ hk=>.inl hk));have HB:=Sd.mk (Below.refl w.heap.size w);have H:(if a1≥(l0.length:Int) then(spec_l1End.j0 k l0 a1 true) else(if 0≤a1 then(if a1<(l0.length:Int) then((spec_l1In.f (rd l0 a1) 0 60).bind fun t151=>(spec_l1End.j0 k l0 a1 (!t151))) else(none)) else(none)))=some r:=h;clear h;have HC3:=Sd.mk H;clear H;go_enter Try.func64,Try.ntmps64
 go_upto_region 1 with (fail)
 go_cut [20] (fun v20 wc=>∃ (kq:Nat) (x20_2:Bool),v20=.bool x20_2∧Sd (spec_l1End.j0 kq l0 a1 x20_2=some r)∧Sd (kq≤k)∧Sd (Kd.V (Kd.int .i64) 3 wc w.heap.size (fun k_=>(P0_ k_∨w.heap.size≤k_)) (.slice A0 l0.length c0) l0)∧Sd (Below w.heap.size w wc))
 case first =>
  have H:=HC3.out;clear HC3
  by_cases c4:a1≥(l0.length:Int)
  ·rw[if_pos c4] at H
   have c4b0:decide ((l0.length:Int)≤a1)=true:=decide_eq_true c4;clear c4
   (first|rw[c4b0]|(simp only[i64_w,i32_w];rw[c4b0])|skip)
   have H':=Sd.mk H;clear H;go_wp2;go_meet
   case rel=>exact⟨_,(true),(by first|rfl|(simp;done)|(simp[*];done)),H',⟨by first|omega|exact Nat.le_refl _⟩,⟨by(with_reducible repeat (first|apply Kd.V_alloc|apply Kd.V_drewN|apply Kd.V_drew));exact HO0.out⟩,⟨bz⟩⟩
  ·rw[if_neg c4] at H
   have c4b0:decide ((l0.length:Int)≤a1)=false:=decide_eq_false c4;clear c4
   (first|rw[c4b0]|(simp only[i64_w,i32_w];rw[c4b0])|skip)
   by_cases c5:0≤a1
   ·rw[if_pos c5] at H
    have c5b0:decide (0≤a1)=true:=decide_eq_true c5;clear c5
    by_cases c6:a1<(l0.length:Int)
    ·rw[if_pos c6] at H
     have c6b0:decide (a1<(l0.length:Int))=true:=decide_eq_true c6;clear c6;replace H:=Option.bind_eq_some_iff.mp H;obtain⟨t151,A70,H⟩:=H;replace H:(spec_l1End.j0 k l0 a1 (!t151))=some r:=H;have A7:=Sd.mk A70;clear A70;have H':=Sd.mk H;clear H;have p150:0≤(a1:Int):=dz;have q150:a1<(l0.length:Int):=dz;obtain⟨ad150,e150,hx150_0⟩:=Kd.at_int (Kd.V_reads' HO0.out).2.2 a1 p150 q150;cases e150;replace p150:=eq_true p150;replace q150:=eq_true q150;go_wp2_with (first|(go_at_call 58;(with_reducible refine(spec_l1In.calls (rd l0 a1) 0 60 t151 _ A7.out).mono ?_);rintro e w' ⟨rfl,⟨nd,rfl⟩⟩));go_meet
     case rel=>exact⟨_,(!t151),(by first|rfl|(simp;done)|(simp[*];done)),H',⟨by first|omega|exact Nat.le_refl _⟩,⟨by(with_reducible repeat (first|apply Kd.V_alloc|apply Kd.V_drewN|apply Kd.V_drew));exact HO0.out⟩,⟨bz⟩⟩
    ·rw[if_neg c6] at H
     exact absurd H (by simp)
   ·rw[if_neg c5] at H
    exact absurd H (by simp)
 case rest =>
  clear HC3
  try clear p1
  try clear q1
  try clear hx1
  try clear p2
  try clear c4
  try clear c4b0
  try clear c5
  try clear c5b0
  try clear c6
  try clear c6b0
  try clear hx150_0
  try clear p150
  try clear q150
  obtain⟨kq,x20_2,rfl,HA,HJ2,HO_0,HB⟩:=hcut
  cases kq with
  | zero=>exact absurd HA.out (by simp[spec_l1End.j0])
  | succ kj2 =>
   have H:=HA.out;clear HA;simp only[spec_l1End.j0] at H
   by_cases c8:x20_2=true
   ·subst c8
    have H1:(some (-1))=some r:=by rw[if_pos rfl] at H;exact H
    clear H;have H:=H1;clear H1;obtain rfl:=Option.some.inj H;go_wp2;go_ret;exact⟨by first|rfl|(simp[errW_none,errW_some]<;>rfl)|(simp[*,errW_none,errW_some]<;>rfl),bz⟩
   ·replace c8:=Bool.eq_false_iff.mpr c8
    subst c8
    have H1:(if 0≤a1 then(if a1<(l0.length:Int) then(spec_l1End.l0 kj2 l0 (wrap64 (a1+1)) (rd l0 a1) (([]:List Int)) 0) else(none)) else(none))=some r:=by rw[if_neg (show ¬ (false=true) by decide)] at H;exact H
    clear H;have H:=H1;clear H1
    by_cases c9:0≤a1
    ·rw[if_pos c9] at H
     have c9b0:decide (0≤a1)=true:=decide_eq_true c9;clear c9
     by_cases c10:a1<(l0.length:Int)
     ·rw[if_pos c10] at H
      have c10b0:decide (a1<(l0.length:Int))=true:=decide_eq_true c10;clear c10;obtain⟨y153,hy153⟩:∃ y_:List Int,y_=(([]:List Int)):=⟨_,rfl⟩;replace H:(spec_l1End.l0 kj2 l0 (wrap64 (a1+1)) (rd l0 a1) y153 0)=some r:=hz hy153 H;have Ny153:=Sd.mk hy153;clear hy153;have H':=Sd.mk H;clear H;have p152:0≤(a1:Int):=dz;have q152:a1<(l0.length:Int):=dz;obtain⟨ad152,e152,hx152_0⟩:=Kd.at_int (Kd.V_reads' HO_0.out).2.2 a1 p152 q152;cases e152;replace p152:=eq_true p152;replace q152:=eq_true q152;go_wp2_with (first|((with_reducible refine gate_dst (N:=27) rfl ?_);refine Kd.R_lit (Kd.int .i64) _ 3 ?hg (N:=27) ?hd (xs:=([]:List Int)) (inner:=[]) (ok:=fun _=>True) (okp:=fun _=>True) ?hr ?hp (fun _ hk=>hk) trivial (Below.refl _ _) (Nat.le_refl _) (by simp) ?_;(case hd=>rfl);(case hg=>rfl);(case hr=>first|(go_simp;done)|(go_simp;rfl));(case hp=>exact(Reps.none _ _));intro v154 w11 ho12 hb hg_ hnew_;clear hg_ hnew_;(first|rw[← Ny153.out] at ho12|(simp only[Int.reduceToNat] at ho12;rw[← Ny153.out] at ho12));replace HO_0:=Sd.mk (Kd.V_elder' (Kd.Vz HO_0.out) (Kd.R_base ho12) hb);have HO155:=Sd.mk (Kd.R_lower (Kd.R_newM (M:=fun k_=>(w.heap.size≤k_)) ho12 (below_size bz) (fun k_ h_=>h_)) (below_size bz));replace HB:=Sd.mk (below_step bz hb);clear hb ho12))
      go_loopg [1,6,7] kj2 (fun kq v1 v6 v7 w'=>∃ (x1_2:Int) (x6_2:List Int) (x7_2:Int),v1=.int .i64 x1_2∧v7=.int .i64 x7_2∧Sd (spec_l1End.l0 kq l0 x1_2 (rd l0 a1) x6_2 x7_2=some r)∧Sd (kq≤kj2)∧Sd (Kd.V (Kd.int .i64) 3 w' w.heap.size (fun k_=>(P0_ k_∨w.heap.size≤k_)) (.slice (some ad152) l0.length c0) l0)∧Sd (Kd.V (Kd.int .i64) 3 w' w.heap.size (fun k_=>(P0_ k_∨w.heap.size≤k_)) v6 x6_2)∧Sd (Below w.heap.size w w'))
      case atStart=>exact⟨(wrap64 (a1+1)),(y153),(0),(by first|rfl|(simp;done)|(simp[*];done)),(by first|rfl|(simp;done)|(simp[*];done)),H',⟨Nat.le_refl _⟩,⟨Kd.Vz <| Kd.V_mono HO_0.out (fun _ hk=>hk.1)⟩,⟨Kd.V_mono (Kd.R_V (Kd.Rz <| Kd.R_mono HO155.out (fun _ hk=>hk.1))) (fun k_ hk=>by first|exact⟨(.inr (hk.1)),hk.2⟩|exact(.inr (hk)))⟩,⟨bz⟩⟩
      case round =>
       clear H'
       try clear c1
       try clear p1
       try clear q1
       try clear hx1
       try clear p2
       try clear c4
       try clear c4b0
       try clear c5
       try clear c5b0
       try clear c6
       try clear c6b0
       try clear p6
       try clear c8
       try clear c9
       try clear c9b0
       try clear c10
       try clear c10b0
       try clear hx150_0
       try clear hx152_0
       try clear p1
       try clear p150
       try clear p152
       try clear p2
       try clear q1
       try clear q150
       try clear q152
       obtain⟨x1_2,x6_2,x7_2,rfl,rfl,HA,HK2,HO_0,HO_6,HB⟩:=hrel
       cases gk with
       | zero=>exact absurd HA.out (by simp[spec_l1End.l0])
       | succ k2 =>
        have H:=HA.out;clear HA;simp only[spec_l1End.l0] at H
        by_cases c13:x7_2<(rd l0 a1)
        ·rw[if_pos c13] at H
         have c13b0:decide (x7_2<(rd l0 a1))=true:=decide_eq_true c13;clear c13;have HC14:=Sd.mk H;clear H
         go_upto_region 9 with (fail)
         go_cut [44] (fun v44 wc=>∃ (kq:Nat) (x44_13:Bool),v44=.bool x44_13∧Sd (spec_l1End.j2 kq l0 x1_2 (rd l0 a1) x6_2 x7_2 x44_13=some r)∧Sd (kq≤k2)∧Sd (Kd.V (Kd.int .i64) 3 wc w.heap.size (fun k_=>(P0_ k_∨w.heap.size≤k_)) (.slice (some ad152) l0.length c0) l0)∧Sd (Kd.V (Kd.int .i64) 3 wc w.heap.size (fun k_=>(P0_ k_∨w.heap.size≤k_)) u6 x6_2)∧Sd (Below w.heap.size w wc))
         case first =>
          have H:=HC14.out;clear HC14
          by_cases c15:x1_2≥(l0.length:Int)
          ·rw[if_pos c15] at H
           have c15b0:decide ((l0.length:Int)≤x1_2)=true:=decide_eq_true c15;clear c15
           (first|rw[c15b0]|(simp only[i64_w,i32_w];rw[c15b0])|skip)
           have H':=Sd.mk H;clear H;go_wp2;go_meet
           case rel=>exact⟨_,(true),(by first|rfl|(simp;done)|(simp[*];done)),H',⟨by have:=HJ2.out;have:=HK2.out;first|omega|exact Nat.le_refl _⟩,⟨by(with_reducible repeat (first|apply Kd.V_alloc|apply Kd.V_drewN|apply Kd.V_drew));exact HO_0.out⟩,⟨by(with_reducible repeat (first|apply Kd.V_alloc|apply Kd.V_drewN|apply Kd.V_drew));exact HO_6.out⟩,⟨bz⟩⟩
          ·rw[if_neg c15] at H
           have c15b0:decide ((l0.length:Int)≤x1_2)=false:=decide_eq_false c15;clear c15
           (first|rw[c15b0]|(simp only[i64_w,i32_w];rw[c15b0])|skip)
           by_cases c16:0≤x1_2
           ·rw[if_pos c16] at H
            have c16b0:decide (0≤x1_2)=true:=decide_eq_true c16;clear c16
            by_cases c17:x1_2<(l0.length:Int)
            ·rw[if_pos c17] at H
             have c17b0:decide (x1_2<(l0.length:Int))=true:=decide_eq_true c17;clear c17;replace H:=Option.bind_eq_some_iff.mp H;obtain⟨t157,A180,H⟩:=H;replace H:(spec_l1End.j2 k2 l0 x1_2 (rd l0 a1) x6_2 x7_2 (!t157))=some r:=H;have A18:=Sd.mk A180;clear A180;have H':=Sd.mk H;clear H;have p156:0≤(x1_2:Int):=dz;have q156:x1_2<(l0.length:Int):=dz;obtain⟨ad156,e156,hx156_0⟩:=Kd.at_int (Kd.V_reads' HO_0.out).2.2 x1_2 p156 q156;obtain rfl:ad152=ad156:=(by injection e156);replace p156:=eq_true p156;replace q156:=eq_true q156;go_wp2_with (first|(go_at_call 58;(with_reducible refine(spec_l1In.calls (rd l0 x1_2) 1 9999 t157 _ A18.out).mono ?_);rintro e w' ⟨rfl,⟨nd,rfl⟩⟩));go_meet
             case rel=>exact⟨_,(!t157),(by first|rfl|(simp;done)|(simp[*];done)),H',⟨by have:=HJ2.out;have:=HK2.out;first|omega|exact Nat.le_refl _⟩,⟨by(with_reducible repeat (first|apply Kd.V_alloc|apply Kd.V_drewN|apply Kd.V_drew));exact HO_0.out⟩,⟨by(with_reducible repeat (first|apply Kd.V_alloc|apply Kd.V_drewN|apply Kd.V_drew));exact HO_6.out⟩,⟨bz⟩⟩
            ·rw[if_neg c17] at H
             exact absurd H (by simp)
           ·rw[if_neg c16] at H
            exact absurd H (by simp)
         case rest =>
          clear HC14
          try clear c1
          try clear p1
          try clear q1
          try clear hx1
          try clear p2
          try clear c4
          try clear c4b0
          try clear c5
          try clear c5b0
          try clear c6
          try clear c6b0
          try clear p6
          try clear c8
          try clear c9
          try clear c9b0
          try clear c10
          try clear c10b0
          try clear c13
          try clear c13b0
          try clear c15
          try clear c15b0
          try clear p15
          try clear q15
          try clear hx15
          try clear c16
          try clear c16b0
          try clear c17
          try clear c17b0
          try clear hx150_0
          try clear hx152_0
          try clear hx156_0
          try clear p1
          try clear p150
          try clear p152
          try clear p156
          try clear p2
          try clear p6
          try clear q1
          try clear q150
          try clear q152
          try clear q156
          obtain⟨kq,x44_13,rfl,HA,HJ13,HO_0,HO_6,HB⟩:=hcut
          cases kq with
          | zero=>exact absurd HA.out (by simp[spec_l1End.j2])
          | succ kj13 =>
           have H:=HA.out;clear HA;simp only[spec_l1End.j2] at H
           by_cases c19:x44_13=true
           ·subst c19
            have H1:(some (-1))=some r:=by rw[if_pos rfl] at H;exact H
            clear H;have H:=H1;clear H1;obtain rfl:=Option.some.inj H;go_wp2;go_ret;exact⟨by first|rfl|(simp[errW_none,errW_some]<;>rfl)|(simp[*,errW_none,errW_some]<;>rfl),bz⟩
           ·replace c19:=Bool.eq_false_iff.mpr c19
            subst c19
            have H1:((spec_l1End.f kj13 l0 (wrap64 (x1_2+1))).bind fun t158=>(if t158<0 then(some (-1)) else(if x7_2>0 then(if 0≤(wrap64 (x1_2+1)) then(if(wrap64 (x1_2+1))≤t158 then(if t158≤(l0.length:Int) then((spec_l1Compare.f kj13 ((l0.take (t158:Int).toNat).drop ((wrap64 (x1_2+1)):Int).toNat) x6_2).bind fun t164=>(if t164≥0 then(some (-1)) else(spec_l1End.l0 kj13 l0 t158 (rd l0 a1) ((l0.take (t158:Int).toNat).drop ((wrap64 (x1_2+1)):Int).toNat) (wrap64 (x7_2+1))))) else(none)) else(none)) else(none)) else(if 0≤(wrap64 (x1_2+1)) then(if(wrap64 (x1_2+1))≤t158 then(if t158≤(l0.length:Int) then(spec_l1End.l0 kj13 l0 t158 (rd l0 a1) ((l0.take (t158:Int).toNat).drop ((wrap64 (x1_2+1)):Int).toNat) (wrap64 (x7_2+1))) else(none)) else(none)) else(none)))))=some r:=by rw[if_neg (show ¬ (false=true) by decide)] at H;exact H
            clear H;have H:=H1;clear H1;replace H:=Option.bind_eq_some_iff.mp H;obtain⟨t158,A200,H⟩:=H;replace H:(if t158<0 then(some (-1)) else(if x7_2>0 then(if 0≤(wrap64 (x1_2+1)) then(if(wrap64 (x1_2+1))≤t158 then(if t158≤(l0.length:Int) then((spec_l1Compare.f kj13 ((l0.take (t158:Int).toNat).drop ((wrap64 (x1_2+1)):Int).toNat) x6_2).bind fun t164=>(if t164≥0 then(some (-1)) else(spec_l1End.l0 kj13 l0 t158 (rd l0 a1) ((l0.take (t158:Int).toNat).drop ((wrap64 (x1_2+1)):Int).toNat) (wrap64 (x7_2+1))))) else(none)) else(none)) else(none)) else(if 0≤(wrap64 (x1_2+1)) then(if(wrap64 (x1_2+1))≤t158 then(if t158≤(l0.length:Int) then(spec_l1End.l0 kj13 l0 t158 (rd l0 a1) ((l0.take (t158:Int).toNat).drop ((wrap64 (x1_2+1)):Int).toNat) (wrap64 (x7_2+1))) else(none)) else(none)) else(none))))=some r:=H;have A20:=Sd.mk A200;clear A200
            by_cases c21:t158<0
            ·rw[if_pos c21] at H
             have c21b0:decide (t158<0)=true:=decide_eq_true c21;clear c21;obtain rfl:=Option.some.inj H;go_wp2_with (first|((with_reducible refine gate_callee (f:=64) rfl ?_);refine goesL_ (some 48) rfl rfl Try.func64 (by kernel_rfl) rfl #[.slice (some ad152) l0.length c0,.int .i64 (wrap64 (x1_2+1))] rfl az ?_;(with_reducible refine(ih kj13 (by have:=HJ2.out;have:=HK2.out;have:=HJ13.out;omega) (fun k_=>(P0_ k_∨w.heap.size≤k_)) _ _ l0 (wrap64 (x1_2+1)) t158 _ ?side1 A20.out).mono ?_);(case side1=>exact HO_0.out);rintro e w22 ⟨rfl,hb⟩;refine⟨_,rfl,?_⟩;replace HO_0:=Sd.mk (Kd.V_below (Kd.Vz HO_0.out) hb);replace HO_6:=Sd.mk (Kd.V_below (Kd.Vz HO_6.out) hb);replace HB:=Sd.mk (below_step bz hb);(try clear hb);(try clear hb2);(try clear hk);(try clear hi)));go_ret;exact⟨by first|rfl|(simp[errW_none,errW_some]<;>rfl)|(simp[*,errW_none,errW_some]<;>rfl),bz⟩
            ·rw[if_neg c21] at H
             have c21b0:decide (t158<0)=false:=decide_eq_false c21;clear c21
             by_cases c23:x7_2>0
             ·rw[if_pos c23] at H
              have c23b0:decide (0<x7_2)=true:=decide_eq_true c23;clear c23;obtain⟨ji24,hji24⟩:∃ j_:Int,(wrap64 (x1_2+1))=j_:=⟨_,rfl⟩
              replace H:(if 0≤(ji24) then(if(ji24)≤t158 then(if t158≤(l0.length:Int) then((spec_l1Compare.f kj13 ((l0.take (t158:Int).toNat).drop ((ji24):Int).toNat) x6_2).bind fun t164=>(if t164≥0 then(some (-1)) else(spec_l1End.l0 kj13 l0 t158 (rd l0 a1) ((l0.take (t158:Int).toNat).drop ((ji24):Int).toNat) (wrap64 (x7_2+1))))) else(none)) else(none)) else(none))=some r:=by first|(rw[hji24] at H;exact H)|(simp only[hji24] at H ⊢;exact H)
              (try rw[hji24] at A20)
              have hji24w:(IntKind.i64.wrap (x1_2+1))=ji24:=(i64_w _).trans hji24
              by_cases c25:0≤(ji24)
              ·rw[if_pos c25] at H
               have c25b0:=eq_true c25;have c25b1:decide (0≤(ji24))=true:=decide_eq_true c25;clear c25
               by_cases c26:(ji24)≤t158
               ·rw[if_pos c26] at H
                have c26b0:=eq_true c26;have c26b1:decide ((ji24)≤t158)=true:=decide_eq_true c26;clear c26
                by_cases c27:t158≤(l0.length:Int)
                ·rw[if_pos c27] at H
                 have c27b0:=eq_true c27;have c27b1:decide (t158≤(l0.length:Int))=true:=decide_eq_true c27;clear c27;obtain⟨y159,hy159⟩:∃ y_:List Int,y_=((l0.take (t158:Int).toNat).drop ((ji24):Int).toNat):=⟨_,rfl⟩;replace H:((spec_l1Compare.f kj13 y159 x6_2).bind fun t164=>(if t164≥0 then(some (-1)) else(spec_l1End.l0 kj13 l0 t158 (rd l0 a1) ((l0.take (t158:Int).toNat).drop ((ji24):Int).toNat) (wrap64 (x7_2+1)))))=some r:=hz hy159 H;have Ny159:=Sd.mk hy159;clear hy159;replace H:=Option.bind_eq_some_iff.mp H;obtain⟨t164,A280,H⟩:=H;replace H:(if t164≥0 then(some (-1)) else(spec_l1End.l0 kj13 l0 t158 (rd l0 a1) ((l0.take (t158:Int).toNat).drop ((ji24):Int).toNat) (wrap64 (x7_2+1))))=some r:=H;have A28:=Sd.mk A280;clear A280
                 by_cases c29:t164≥0
                 ·rw[if_pos c29] at H
                  have c29b0:decide (0≤t164)=true:=decide_eq_true c29;clear c29;obtain rfl:=Option.some.inj H;go_wp2_with (first|((with_reducible refine gate_callee (f:=64) rfl ?_);refine goesL_ (some 48) rfl rfl Try.func64 (by kernel_rfl) rfl #[.slice (some ad152) l0.length c0,.int .i64 ji24] rfl (by(try simp only[List.map_toArray,List.map_cons,List.map_nil]);first|done|(simp only[hji24];rfl)|rfl|(simp only[List.length_drop,List.length_take];rfl)) ?_;(with_reducible refine(ih kj13 (by have:=HJ2.out;have:=HK2.out;have:=HJ13.out;omega) (fun k_=>(P0_ k_∨w.heap.size≤k_)) _ _ l0 ji24 t158 _ ?side1 A20.out).mono ?_);(case side1=>exact HO_0.out);rintro e w30 ⟨rfl,hb⟩;refine⟨_,rfl,?_⟩;replace HO_0:=Sd.mk (Kd.V_below (Kd.Vz HO_0.out) hb);replace HO_6:=Sd.mk (Kd.V_below (Kd.Vz HO_6.out) hb);replace HB:=Sd.mk (below_step bz hb);(try clear hb);(try clear hb2);(try clear hk);(try clear hi);have q31:(t158:Int)≤((l0.length:Int):Int):=dz;obtain⟨i031,hi031,_,hsz31,_⟩:=info_parts info3;have hroom31:l0.length≤c0:=(Kd.V_reads' HO_0.out).2.1;have hC31:Kd.F (Kd.int .i64) _ _ (some ad152) l0.length l0:=(Kd.V_at (base:=w.heap.size) HO_0.out).2.2;have ql31:((ji24):Int)≤(t158:Int):=dz;have q031:(0:Int)≤((ji24):Int):=dz;have hcut31:=cut_mid (P:=Try.prog) 22 3 .i64 .i64 Try.underlying22 hi031 1 hsz31 (some ad152) l0.length c0 (ji24) t158 q031 ql31 q31 hroom31;have hr31:=Kd.F_mid (lo:=((ji24):Int).toNat) (hi:=(t158:Int).toNat) (c:=c0) hC31 (by omega) (by omega) hroom31;obtain⟨A31,hA31⟩:∃ Aq_,Aq_=(if c0=((ji24):Int).toNat then(some ad152) else((some ad152):Option Addr).map (·.add (((ji24):Int).toNat*1))):=⟨_,rfl⟩;obtain⟨c31,hc31⟩:∃ cq_,cq_=c0-((ji24):Int).toNat:=⟨_,rfl⟩;have hy31:y159.length=(t158:Int).toNat-((ji24):Int).toNat:=(by rw[Ny159.out,List.length_drop,List.length_take]<;>omega);rw[show ((l0).take (t158:Int).toNat).drop ((ji24):Int).toNat=y159 from Ny159.out.symm] at hr31;replace hr31:Kd.F (Kd.int .i64) _ _ A31 y159.length y159:=(by rw[hA31];exact hr31);rw[← hy31,← hA31,← hc31] at hcut31;have HO163:=Sd.mk (show Kd.V (Kd.int .i64) 3 _ w.heap.size _ (.slice A31 y159.length c31) y159 from Kd.V_mk (by rw[hy31,hc31];exact Nat.sub_le_sub_right (Nat.le_trans (by omega) hroom31) _) hr31);have HC163:=Sd.mk (show y159.length≤c31 from by rw[hy31,hc31];exact Nat.sub_le_sub_right (Nat.le_trans (by omega) hroom31) _);clear hr31 hC31 hroom31 hi031 hsz31 hc31;have KY31:=Sd.mk hy31;have KA31:=Sd.mk hA31;clear hy31 hA31;replace q31:=eq_true q31;obtain⟨Ao32,co32,eo32⟩:=Kd.V_slice HO_6.out;subst eo32)|(go_at_call 53;(with_reducible refine(spec_l1Compare.calls kj13 _ _ y159 _ _ x6_2 t164 _ ?side1 ?side2 ?side3 ?side4 A28.out).mono ?_);(case side1=>exact Kd.Cz (Kd.V_reads' HO163.out).2.2);(case side2=>exact(Kd.V_reads' HO163.out).2.1);(case side3=>exact Kd.Cz (Kd.V_reads' HO_6.out).2.2);(case side4=>exact(Kd.V_reads' HO_6.out).2.1);rintro e w33 ⟨rfl,hb⟩;replace HO_0:=Sd.mk (Kd.V_below (Kd.Vz HO_0.out) hb);replace HO_6:=Sd.mk (Kd.V_below (Kd.Vz HO_6.out) hb);replace HO163:=Sd.mk (Kd.V_below (Kd.Vz HO163.out) hb);replace HB:=Sd.mk (below_step bz hb);(try clear hb);(try clear hb2);(try clear hk);(try clear hi)));go_ret;exact⟨by first|rfl|(simp[errW_none,errW_some]<;>rfl)|(simp only[← hji24];first|rfl|(simp[errW_none,errW_some]<;>rfl))|(simp[*,errW_none,errW_some]<;>rfl),bz⟩
                 ·rw[if_neg c29] at H
                  have c29b0:decide (0≤t164)=false:=decide_eq_false c29;clear c29;have c34b0:=eq_true (dz:0≤(ji24));have c35b0:=eq_true (dz:(ji24)≤t158);have c36b0:=eq_true (dz:t158≤(l0.length:Int));obtain⟨y165,hy165⟩:∃ y_:List Int,y_=((l0.take (t158:Int).toNat).drop ((ji24):Int).toNat):=⟨_,rfl⟩;replace H:(spec_l1End.l0 kj13 l0 t158 (rd l0 a1) y165 (wrap64 (x7_2+1)))=some r:=hz hy165 H;have Ny165:=Sd.mk hy165;clear hy165;have H':=Sd.mk H;clear H;go_wp2_with (first|((with_reducible refine gate_callee (f:=64) rfl ?_);refine goesL_ (some 48) rfl rfl Try.func64 (by kernel_rfl) rfl #[.slice (some ad152) l0.length c0,.int .i64 ji24] rfl (by(try simp only[List.map_toArray,List.map_cons,List.map_nil]);first|done|(simp only[hji24];rfl)|rfl|(simp only[List.length_drop,List.length_take];rfl)) ?_;(with_reducible refine(ih kj13 (by have:=HJ2.out;have:=HK2.out;have:=HJ13.out;omega) (fun k_=>(P0_ k_∨w.heap.size≤k_)) _ _ l0 ji24 t158 _ ?side1 A20.out).mono ?_);(case side1=>exact HO_0.out);rintro e w37 ⟨rfl,hb⟩;refine⟨_,rfl,?_⟩;replace HO_0:=Sd.mk (Kd.V_below (Kd.Vz HO_0.out) hb);replace HO_6:=Sd.mk (Kd.V_below (Kd.Vz HO_6.out) hb);replace HB:=Sd.mk (below_step bz hb);(try clear hb);(try clear hb2);(try clear hk);(try clear hi);have q38:(t158:Int)≤((l0.length:Int):Int):=dz;obtain⟨i038,hi038,_,hsz38,_⟩:=info_parts info3;have hroom38:l0.length≤c0:=(Kd.V_reads' HO_0.out).2.1;have hC38:Kd.F (Kd.int .i64) _ _ (some ad152) l0.length l0:=(Kd.V_at (base:=w.heap.size) HO_0.out).2.2;have ql38:((ji24):Int)≤(t158:Int):=dz;have q038:(0:Int)≤((ji24):Int):=dz;have hcut38:=cut_mid (P:=Try.prog) 22 3 .i64 .i64 Try.underlying22 hi038 1 hsz38 (some ad152) l0.length c0 (ji24) t158 q038 ql38 q38 hroom38;have hr38:=Kd.F_mid (lo:=((ji24):Int).toNat) (hi:=(t158:Int).toNat) (c:=c0) hC38 (by omega) (by omega) hroom38;obtain⟨A38,hA38⟩:∃ Aq_,Aq_=(if c0=((ji24):Int).toNat then(some ad152) else((some ad152):Option Addr).map (·.add (((ji24):Int).toNat*1))):=⟨_,rfl⟩;obtain⟨c38,hc38⟩:∃ cq_,cq_=c0-((ji24):Int).toNat:=⟨_,rfl⟩;have hy38:y159.length=(t158:Int).toNat-((ji24):Int).toNat:=(by rw[Ny159.out,List.length_drop,List.length_take]<;>omega);rw[show ((l0).take (t158:Int).toNat).drop ((ji24):Int).toNat=y159 from Ny159.out.symm] at hr38;replace hr38:Kd.F (Kd.int .i64) _ _ A38 y159.length y159:=(by rw[hA38];exact hr38);rw[← hy38,← hA38,← hc38] at hcut38;have HO163:=Sd.mk (show Kd.V (Kd.int .i64) 3 _ w.heap.size _ (.slice A38 y159.length c38) y159 from Kd.V_mk (by rw[hy38,hc38];exact Nat.sub_le_sub_right (Nat.le_trans (by omega) hroom38) _) hr38);have HC163:=Sd.mk (show y159.length≤c38 from by rw[hy38,hc38];exact Nat.sub_le_sub_right (Nat.le_trans (by omega) hroom38) _);clear hr38 hC38 hroom38 hi038 hsz38 hc38;have KY38:=Sd.mk hy38;have KA38:=Sd.mk hA38;clear hy38 hA38;replace q38:=eq_true q38;obtain⟨Ao39,co39,eo39⟩:=Kd.V_slice HO_6.out;subst eo39)|(go_at_call 53;(with_reducible refine(spec_l1Compare.calls kj13 _ _ y159 _ _ x6_2 t164 _ ?side1 ?side2 ?side3 ?side4 A28.out).mono ?_);(case side1=>exact Kd.Cz (Kd.V_reads' HO163.out).2.2);(case side2=>exact(Kd.V_reads' HO163.out).2.1);(case side3=>exact Kd.Cz (Kd.V_reads' HO_6.out).2.2);(case side4=>exact(Kd.V_reads' HO_6.out).2.1);rintro e w40 ⟨rfl,hb⟩;replace HO_0:=Sd.mk (Kd.V_below (Kd.Vz HO_0.out) hb);replace HO_6:=Sd.mk (Kd.V_below (Kd.Vz HO_6.out) hb);replace HO163:=Sd.mk (Kd.V_below (Kd.Vz HO163.out) hb);replace HB:=Sd.mk (below_step bz hb);(try clear hb);(try clear hb2);(try clear hk);(try clear hi);have q41:(t158:Int)≤((l0.length:Int):Int):=dz;obtain⟨i041,hi041,_,hsz41,_⟩:=info_parts info3;have hroom41:l0.length≤c0:=(Kd.V_reads' HO_0.out).2.1;have hC41:Kd.F (Kd.int .i64) _ _ (some ad152) l0.length l0:=(Kd.V_at (base:=w.heap.size) HO_0.out).2.2;have ql41:((ji24):Int)≤(t158:Int):=dz;have q041:(0:Int)≤((ji24):Int):=dz;have hcut41:=cut_mid (P:=Try.prog) 22 3 .i64 .i64 Try.underlying22 hi041 1 hsz41 (some ad152) l0.length c0 (ji24) t158 q041 ql41 q41 hroom41;have hr41:=Kd.F_mid (lo:=((ji24):Int).toNat) (hi:=(t158:Int).toNat) (c:=c0) hC41 (by omega) (by omega) hroom41;obtain⟨A41,hA41⟩:∃ Aq_,Aq_=(if c0=((ji24):Int).toNat then(some ad152) else((some ad152):Option Addr).map (·.add (((ji24):Int).toNat*1))):=⟨_,rfl⟩;obtain⟨c41,hc41⟩:∃ cq_,cq_=c0-((ji24):Int).toNat:=⟨_,rfl⟩;have hy41:y165.length=(t158:Int).toNat-((ji24):Int).toNat:=(by rw[Ny165.out,List.length_drop,List.length_take]<;>omega);rw[show ((l0).take (t158:Int).toNat).drop ((ji24):Int).toNat=y165 from Ny165.out.symm] at hr41;replace hr41:Kd.F (Kd.int .i64) _ _ A41 y165.length y165:=(by rw[hA41];exact hr41);rw[← hy41,← hA41,← hc41] at hcut41;have HO169:=Sd.mk (show Kd.V (Kd.int .i64) 3 _ w.heap.size _ (.slice A41 y165.length c41) y165 from Kd.V_mk (by rw[hy41,hc41];exact Nat.sub_le_sub_right (Nat.le_trans (by omega) hroom41) _) hr41);have HC169:=Sd.mk (show y165.length≤c41 from by rw[hy41,hc41];exact Nat.sub_le_sub_right (Nat.le_trans (by omega) hroom41) _);clear hr41 hC41 hroom41 hi041 hsz41 hc41;have KY41:=Sd.mk hy41;have KA41:=Sd.mk hA41;clear hy41 hA41;replace q41:=eq_true q41))
                  go_roundg kj13
                  case measure=>have:=HJ2.out;have:=HK2.out;have:=HJ13.out;omega
                  case rel=>exact⟨(t158),(y165),(wrap64 (x7_2+1)),(by first|rfl|(simp;done)|(simp[*];done)),(by first|rfl|(simp;done)|(simp[*];done)),H',⟨by have:=HJ2.out;have:=HK2.out;have:=HJ13.out;omega⟩,⟨by(with_reducible repeat (first|apply Kd.V_alloc|apply Kd.V_drewN|apply Kd.V_drew));exact HO_0.out⟩,⟨by(with_reducible repeat (first|apply Kd.V_alloc|apply Kd.V_drewN|apply Kd.V_drew));first|exact HO169.out|(rw[Ny165.out,← Ny159.out];exact HO163.out)⟩,⟨bz⟩⟩
                ·rw[if_neg c27] at H
                 exact absurd H (by simp)
               ·rw[if_neg c26] at H
                exact absurd H (by simp)
              ·rw[if_neg c25] at H
               exact absurd H (by simp)
             ·rw[if_neg c23] at H
              have c23b0:decide (0<x7_2)=false:=decide_eq_false c23;clear c23;obtain⟨ji42,hji42⟩:∃ j_:Int,(wrap64 (x1_2+1))=j_:=⟨_,rfl⟩
              replace H:(if 0≤(ji42) then(if(ji42)≤t158 then(if t158≤(l0.length:Int) then(spec_l1End.l0 kj13 l0 t158 (rd l0 a1) ((l0.take (t158:Int).toNat).drop ((ji42):Int).toNat) (wrap64 (x7_2+1))) else(none)) else(none)) else(none))=some r:=by first|(rw[hji42] at H;exact H)|(simp only[hji42] at H ⊢;exact H)
              (try rw[hji42] at A20)
              have hji42w:(IntKind.i64.wrap (x1_2+1))=ji42:=(i64_w _).trans hji42
              by_cases c43:0≤(ji42)
              ·rw[if_pos c43] at H
               have c43b0:=eq_true c43;have c43b1:decide (0≤(ji42))=true:=decide_eq_true c43;clear c43
               by_cases c44:(ji42)≤t158
               ·rw[if_pos c44] at H
                have c44b0:=eq_true c44;have c44b1:decide ((ji42)≤t158)=true:=decide_eq_true c44;clear c44
                by_cases c45:t158≤(l0.length:Int)
                ·rw[if_pos c45] at H
                 have c45b0:=eq_true c45;have c45b1:decide (t158≤(l0.length:Int))=true:=decide_eq_true c45;clear c45;obtain⟨y170,hy170⟩:∃ y_:List Int,y_=((l0.take (t158:Int).toNat).drop ((ji42):Int).toNat):=⟨_,rfl⟩;replace H:(spec_l1End.l0 kj13 l0 t158 (rd l0 a1) y170 (wrap64 (x7_2+1)))=some r:=hz hy170 H;have Ny170:=Sd.mk hy170;clear hy170;have H':=Sd.mk H;clear H;go_wp2_with (first|((with_reducible refine gate_callee (f:=64) rfl ?_);refine goesL_ (some 48) rfl rfl Try.func64 (by kernel_rfl) rfl #[.slice (some ad152) l0.length c0,.int .i64 ji42] rfl (by(try simp only[List.map_toArray,List.map_cons,List.map_nil]);first|done|(simp only[hji42];rfl)|rfl|(simp only[List.length_drop,List.length_take];rfl)) ?_;(with_reducible refine(ih kj13 (by have:=HJ2.out;have:=HK2.out;have:=HJ13.out;omega) (fun k_=>(P0_ k_∨w.heap.size≤k_)) _ _ l0 ji42 t158 _ ?side1 A20.out).mono ?_);(case side1=>exact HO_0.out);rintro e w46 ⟨rfl,hb⟩;refine⟨_,rfl,?_⟩;replace HO_0:=Sd.mk (Kd.V_below (Kd.Vz HO_0.out) hb);replace HO_6:=Sd.mk (Kd.V_below (Kd.Vz HO_6.out) hb);replace HB:=Sd.mk (below_step bz hb);(try clear hb);(try clear hb2);(try clear hk);(try clear hi);have q47:(t158:Int)≤((l0.length:Int):Int):=dz;obtain⟨i047,hi047,_,hsz47,_⟩:=info_parts info3;have hroom47:l0.length≤c0:=(Kd.V_reads' HO_0.out).2.1;have hC47:Kd.F (Kd.int .i64) _ _ (some ad152) l0.length l0:=(Kd.V_at (base:=w.heap.size) HO_0.out).2.2;have ql47:((ji42):Int)≤(t158:Int):=dz;have q047:(0:Int)≤((ji42):Int):=dz;have hcut47:=cut_mid (P:=Try.prog) 22 3 .i64 .i64 Try.underlying22 hi047 1 hsz47 (some ad152) l0.length c0 (ji42) t158 q047 ql47 q47 hroom47;have hr47:=Kd.F_mid (lo:=((ji42):Int).toNat) (hi:=(t158:Int).toNat) (c:=c0) hC47 (by omega) (by omega) hroom47;obtain⟨A47,hA47⟩:∃ Aq_,Aq_=(if c0=((ji42):Int).toNat then(some ad152) else((some ad152):Option Addr).map (·.add (((ji42):Int).toNat*1))):=⟨_,rfl⟩;obtain⟨c47,hc47⟩:∃ cq_,cq_=c0-((ji42):Int).toNat:=⟨_,rfl⟩;have hy47:y170.length=(t158:Int).toNat-((ji42):Int).toNat:=(by rw[Ny170.out,List.length_drop,List.length_take]<;>omega);rw[show ((l0).take (t158:Int).toNat).drop ((ji42):Int).toNat=y170 from Ny170.out.symm] at hr47;replace hr47:Kd.F (Kd.int .i64) _ _ A47 y170.length y170:=(by rw[hA47];exact hr47);rw[← hy47,← hA47,← hc47] at hcut47;have HO174:=Sd.mk (show Kd.V (Kd.int .i64) 3 _ w.heap.size _ (.slice A47 y170.length c47) y170 from Kd.V_mk (by rw[hy47,hc47];exact Nat.sub_le_sub_right (Nat.le_trans (by omega) hroom47) _) hr47);have HC174:=Sd.mk (show y170.length≤c47 from by rw[hy47,hc47];exact Nat.sub_le_sub_right (Nat.le_trans (by omega) hroom47) _);clear hr47 hC47 hroom47 hi047 hsz47 hc47;have KY47:=Sd.mk hy47;have KA47:=Sd.mk hA47;clear hy47 hA47;replace q47:=eq_true q47))
                 go_roundg kj13
                 case measure=>have:=HJ2.out;have:=HK2.out;have:=HJ13.out;omega
                 case rel=>exact⟨(t158),(y170),(wrap64 (x7_2+1)),(by first|rfl|(simp;done)|(simp[*];done)),(by first|rfl|(simp;done)|(simp[*];done)),H',⟨by have:=HJ2.out;have:=HK2.out;have:=HJ13.out;omega⟩,⟨by(with_reducible repeat (first|apply Kd.V_alloc|apply Kd.V_drewN|apply Kd.V_drew));exact HO_0.out⟩,⟨by(with_reducible repeat (first|apply Kd.V_alloc|apply Kd.V_drewN|apply Kd.V_drew));exact HO174.out⟩,⟨bz⟩⟩
                ·rw[if_neg c45] at H
                 exact absurd H (by simp)
               ·rw[if_neg c44] at H
                exact absurd H (by simp)
              ·rw[if_neg c43] at H
               exact absurd H (by simp)
        ·rw[if_neg c13] at H
         have c13b0:decide (x7_2<(rd l0 a1))=false:=decide_eq_false c13;clear c13;obtain rfl:=Option.some.inj H;go_wp2;go_ret;exact⟨by first|rfl|(simp[errW_none,errW_some]<;>rfl)|(simp[*,errW_none,errW_some]<;>rfl),bz⟩
     ·rw[if_neg c10] at H
      exact absurd H (by simp)
    ·rw[if_neg c9] at H
     exact absurd H (by simp)
end Go.Proofs.Ytfblcanijhnhmaa.P