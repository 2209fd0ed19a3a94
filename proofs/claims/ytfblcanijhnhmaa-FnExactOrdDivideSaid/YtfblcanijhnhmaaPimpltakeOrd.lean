/- One Go function comes to what its Lean function tells. -/
import Derived.Test.YtfblcanijhnhmaaP0
import Derived.Test.YtfblcanijhnhmaaPimplcompare
namespace Go.Proofs.Ytfblcanijhnhmaa.P
open Go.RowKit YtfblcanijhnhmaaW.PrintWords YtfblcanijhnhmaaW.PrintLast YtfblcanijhnhmaaW.PrintMore
set_option linter.unusedVariables false
set_option linter.unusedSimpArgs false
/-! ### impl_takeOrd: function 74 -/
mutual
def impl_takeOrd.j0:Nat→List Int→Int→List (S61)→Bool→Option ((List (S61)) × List Int × Bool)
 | 0,_,_,_,_=>none
 | k+1,x0,x5,x6,x25=>if x25=true then(some (([]:List (S61)),([]:List Int),false)) else(impl_takeOrd.l0 k x0 x6 x5 0)
def impl_takeOrd.l0:Nat→List Int→List (S61)→Int→Int→Option ((List (S61)) × List Int × Bool)
 | 0,_,_,_,_=>none
 | k+1,x0,x6,x26,x27=>if x27<x26 then(if(x0.length:Int)=0 then(impl_takeOrd.j2 k x0 x6 x27 x26 x27 true) else(if 0<(x0.length:Int) then(if(rd x0 0)<1 then(impl_takeOrd.j2 k x0 x6 x27 x26 x27 true) else(impl_takeOrd.j2 k x0 x6 x27 x26 x27 (decide ((rd x0 0)>9999)))) else(none))) else(some (x6,x0,true))
def impl_takeOrd.j2:Nat→List Int→List (S61)→Int→Int→Int→Bool→Option ((List (S61)) × List Int × Bool)
 | 0,_,_,_,_,_,_=>none
 | k+1,x0,x6,x7,x26,x27,x44=>if x44=true then(some (([]:List (S61)),([]:List Int),false)) else(if 1≤(x0.length:Int) then((impl_takeOrd.f k (x0.drop 1)).bind fun bt552=>(if bt552.2.2=true then(if x7>0 then(if 0≤(wrap64 (x7-1)) then(if(wrap64 (x7-1))<(x6.length:Int) then((impl_compare.f k bt552.1 ((rd_T61 x6 (wrap64 (x7-1))).f1)).bind fun t560=>(if t560≥0 then(some (([]:List (S61)),([]:List Int),false)) else(if 0<(x0.length:Int) then(if x6.length<4398046511104 then(impl_takeOrd.l0 k bt552.2.1 (x6++[(⟨rd x0 0,bt552.1⟩:S61)]) x26 (wrap64 (x27+1))) else(none)) else(none)))) else(none)) else(none)) else(if 0<(x0.length:Int) then(if x6.length<4398046511104 then(impl_takeOrd.l0 k bt552.2.1 (x6++[(⟨rd x0 0,bt552.1⟩:S61)]) x26 (wrap64 (x27+1))) else(none)) else(none))) else(some (([]:List (S61)),([]:List Int),false)))) else(none))
def impl_takeOrd.f:Nat→List Int→Option ((List (S61)) × List Int × Bool)
 | 0,_=>none
 | k+1,l0=>if(l0.length:Int)=0 then(some (([]:List (S61)),([]:List Int),false)) else(if 0<(l0.length:Int) then(if 1≤(l0.length:Int) then((some (l0.drop 1:List Int)).bind fun y537=>((some (([]:List (S61)):List (S61))).bind fun y542=>(if(rd l0 0)<0 then(impl_takeOrd.j0 k y537 (rd l0 0) y542 true) else(impl_takeOrd.j0 k y537 (rd l0 0) y542 (decide ((rd l0 0)>60)))))) else(none)) else(none))
end
theorem impl_takeOrd.mono_l:∀ k,(∀ y0,LeO (impl_takeOrd.f k y0) (impl_takeOrd.f (k+1) y0))∧(∀ y0 y1 y2 y3,LeO (impl_takeOrd.j0 k y0 y1 y2 y3) (impl_takeOrd.j0 (k+1) y0 y1 y2 y3))∧(∀ y0 y1 y2 y3,LeO (impl_takeOrd.l0 k y0 y1 y2 y3) (impl_takeOrd.l0 (k+1) y0 y1 y2 y3))∧(∀ y0 y1 y2 y3 y4 y5,LeO (impl_takeOrd.j2 k y0 y1 y2 y3 y4 y5) (impl_takeOrd.j2 (k+1) y0 y1 y2 y3 y4 y5))
 | 0=>⟨fun _ r h=>by simp[impl_takeOrd.f] at h,fun _ _ _ _ r h=>by simp[impl_takeOrd.j0] at h,fun _ _ _ _ r h=>by simp[impl_takeOrd.l0] at h,fun _ _ _ _ _ _ r h=>by simp[impl_takeOrd.j2] at h⟩
 | k+1=>by
  obtain⟨ih0,ih1,ih2,ih3⟩:=impl_takeOrd.mono_l k
  refine⟨?_,?_,?_,?_⟩
  ·intro y0
   unfold impl_takeOrd.f
   repeat' first|(with_reducible first|exact ih0 _|exact ih1 _ _ _ _|exact LeO.refl _|exact LeO.none _|refine LeO.ite ?_ ?_|refine LeO.bind ?_ (fun _=>?_))|exact ih0 _|exact ih1 _ _ _ _|exact LeO.none _|refine LeO.ite ?_ ?_|refine LeO.bind ?_ (fun _=>?_)
  ·intro y0 y1 y2 y3
   unfold impl_takeOrd.j0
   repeat' first|(with_reducible first|exact ih1 _ _ _ _|exact ih2 _ _ _ _|exact LeO.refl _|exact LeO.none _|refine LeO.ite ?_ ?_|refine LeO.bind ?_ (fun _=>?_))|exact ih1 _ _ _ _|exact ih2 _ _ _ _|exact LeO.none _|refine LeO.ite ?_ ?_|refine LeO.bind ?_ (fun _=>?_)
  ·intro y0 y1 y2 y3
   unfold impl_takeOrd.l0
   repeat' first|(with_reducible first|exact ih2 _ _ _ _|exact ih3 _ _ _ _ _ _|exact LeO.refl _|exact LeO.none _|refine LeO.ite ?_ ?_|refine LeO.bind ?_ (fun _=>?_))|exact ih2 _ _ _ _|exact ih3 _ _ _ _ _ _|exact LeO.none _|refine LeO.ite ?_ ?_|refine LeO.bind ?_ (fun _=>?_)
  ·intro y0 y1 y2 y3 y4 y5
   unfold impl_takeOrd.j2
   repeat' first|(with_reducible first|exact ih0 _|exact ih2 _ _ _ _|exact ih3 _ _ _ _ _ _|exact impl_compare.mono _ _ _|exact LeO.refl _|exact LeO.none _|refine LeO.ite ?_ ?_|refine LeO.bind ?_ (fun _=>?_))|exact ih0 _|exact ih2 _ _ _ _|exact ih3 _ _ _ _ _ _|exact impl_compare.mono _ _ _|exact LeO.none _|refine LeO.ite ?_ ?_|refine LeO.bind ?_ (fun _=>?_)
theorem impl_takeOrd.mono:∀ a0 k,LeO (impl_takeOrd.f k a0) (impl_takeOrd.f (k+1) a0):=by
 intro a0 k;obtain⟨ih0,ih1,ih2,ih3⟩:=impl_takeOrd.mono_l k;exact ih0 a0
set_option maxHeartbeats 8000000 in
set_option maxRecDepth 100000 in
theorem impl_takeOrd.calls (k:Nat):∀ (P0_:Nat→Prop) (A0:Option Addr) (c0:Nat) (l0:List Int) (r1:List (S61)) (r2:List Int) (r3:Bool) (w:World) (hs0:Kd.V (Kd.int .i64) 3 w w.heap.size (fun k_=>P0_ k_) (.slice A0 l0.length c0) l0) (h:impl_takeOrd.f k l0=some (r1,r2,r3)),
  Calls Try.prog 74 #[.slice A0 l0.length c0] w fun e w'=>∃ v0_ v1_:Value,e=.returned (.tuple #[v0_,v1_,.bool r3])∧Kd.R k61 61 w' w.heap.size (fun k_=>(w.heap.size≤k_)) v0_ r1∧Kd.V (Kd.int .i64) 3 w' w.heap.size (fun k_=>(P0_ k_∨w.heap.size≤k_)∧some k_≠(v0_:Value).ownBlock) v1_ r2∧Below w.heap.size w w':=by
 induction k using Nat.strongRecOn with
 | _ k ih =>
 intro P0_ A0 c0 l0 r1 r2 r3 w hs0 h
 cases k with
 | zero=>exact absurd h (by simp[impl_takeOrd.f])
 | succ k =>
 simp only[impl_takeOrd.f] at h;have hu61:=Try.underlying61;have HO0:=Sd.mk (show Kd.V (Kd.int .i64) 3 w w.heap.size (fun k_=>(P0_ k_∨w.heap.size≤k_)) (.slice A0 l0.length c0) l0 from Kd.V_mono hs0 (fun k_ hk=>.inl hk));have HB:=Sd.mk (Below.refl w.heap.size w);have H:(if(l0.length:Int)=0 then(some (([]:List (S61)),([]:List Int),false)) else(if 0<(l0.length:Int) then(if 1≤(l0.length:Int) then((some (l0.drop 1:List Int)).bind fun y537=>((some (([]:List (S61)):List (S61))).bind fun y542=>(if(rd l0 0)<0 then(impl_takeOrd.j0 k y537 (rd l0 0) y542 true) else(impl_takeOrd.j0 k y537 (rd l0 0) y542 (decide ((rd l0 0)>60)))))) else(none)) else(none)))=some (r1,r2,r3):=h;clear h
 by_cases c2:(l0.length:Int)=0
 ·rw[if_pos c2] at H
  have c2b0:((l0.length:Int) == 0)=true:=beq_iff_eq.mpr c2;have c2b1:((l0.length:Int) != 0)=false:=bne_eq_false_iff_eq.mpr c2;clear c2;simp only[Option.some.injEq,Prod.mk.injEq] at H;obtain⟨rfl,rfl,rfl⟩:=H;go_enter Try.func74,Try.ntmps74;go_wp2;go_ret3;exact⟨_,_,by first|rfl|(simp[errW_none,errW_some]<;>rfl)|(simp[*,errW_none,errW_some]<;>rfl),by first|exact Kd.R_nil _ _ _ _ _|exact Kd.N_nil _ _ _ _ _|exact Kd.V_nil _ _ _ _ _|exact Kd.Q_nil _ _ _ _ _|exact Kd.S_nil _ _ _ _ _,Kd.V_nil _ _ _ _ _,bz⟩
 ·rw[if_neg c2] at H
  have c2b0:((l0.length:Int) == 0)=false:=beq_eq_false_iff_ne.mpr c2;have c2b1:((l0.length:Int) != 0)=true:=bne_iff_ne.mpr c2;have c2b2:¬ (l0=[]):=fun h_=>c2 (by rw[h_];rfl)
  by_cases c3:0<(l0.length:Int)
  ·rw[if_pos c3] at H
   have c3b0:decide (0<(l0.length:Int))=true:=decide_eq_true c3;have c3b1:decide (0<l0.length)=true:=decide_eq_true (by omega);clear c3
   by_cases c4:1≤(l0.length:Int)
   ·rw[if_pos c4] at H
    have c4b0:=eq_true c4;have c4b1:decide (1≤(l0.length:Int))=true:=decide_eq_true c4;clear c4;obtain⟨y537,hy537⟩:∃ y_:List Int,y_=(l0.drop 1):=⟨_,rfl⟩;replace H:((some (([]:List (S61)):List (S61))).bind fun y542=>(if(rd l0 0)<0 then(impl_takeOrd.j0 k y537 (rd l0 0) y542 true) else(impl_takeOrd.j0 k y537 (rd l0 0) y542 (decide ((rd l0 0)>60)))))=some (r1,r2,r3):=hz hy537 H;have Ny537:=Sd.mk hy537;clear hy537;obtain⟨y542,hy542⟩:∃ y_:List (S61),y_=(([]:List (S61))):=⟨_,rfl⟩;replace H:(if(rd l0 0)<0 then(impl_takeOrd.j0 k y537 (rd l0 0) y542 true) else(impl_takeOrd.j0 k y537 (rd l0 0) y542 (decide ((rd l0 0)>60))))=some (r1,r2,r3):=hz hy542 H;have Ny542:=Sd.mk hy542;clear hy542;have HC5:=Sd.mk H;clear H;have p536:0≤(0:Int):=(by omega);have q536:0<(l0.length:Int):=dz;obtain⟨ad536,e536,hx536_0⟩:=Kd.at_int (Kd.V_reads' HO0.out).2.2 0 p536 q536;cases e536;have qi536:(0<l0.length)=True:=eq_true (by omega)
    (try rw[show ((0:Int)).toNat=0 from rfl] at hx536_0)
    (try rw[Addr.add_zero'] at hx536_0)
    replace p536:=eq_true p536;replace q536:=eq_true q536;have q6:(1:Int)≤((l0.length:Int):Int):=dz;obtain⟨i06,hi06,_,hsz6,_⟩:=info_parts info3;have hroom6:l0.length≤c0:=(Kd.V_reads' HO0.out).2.1;have hC6:Kd.F (Kd.int .i64) _ _ (some ad536) l0.length l0:=(Kd.V_at (base:=w.heap.size) HO0.out).2.2;have hcut6:=cut_from (P:=Try.prog) 22 3 .i64 Try.underlying22 hi06 1 hsz6 (some ad536) l0.length c0 1 (by omega) q6;have hr6:=Kd.F_cut (m:=(1:Int).toNat) (c:=c0) hC6 (by omega) hroom6;obtain⟨A6,hA6⟩:∃ Aq_,Aq_=(if c0=(1:Int).toNat then(some ad536) else((some ad536):Option Addr).map (·.add ((1:Int).toNat*1))):=⟨_,rfl⟩;obtain⟨c6,hc6⟩:∃ cq_,cq_=c0-(1:Int).toNat:=⟨_,rfl⟩;have hy6:y537.length=l0.length-(1:Int).toNat:=(by rw[Ny537.out,List.length_drop]<;>omega);rw[show (l0).drop (1:Int).toNat=y537 from Ny537.out.symm] at hr6;replace hr6:Kd.F (Kd.int .i64) _ _ A6 y537.length y537:=(by rw[hA6];exact hr6);rw[← hy6,← hA6,← hc6] at hcut6;have HO541:=Sd.mk (show Kd.V (Kd.int .i64) 3 _ w.heap.size _ (.slice A6 y537.length c6) y537 from Kd.V_mk (by rw[hy6,hc6];exact Nat.sub_le_sub_right hroom6 _) hr6);have HC541:=Sd.mk (show y537.length≤c6 from by rw[hy6,hc6];exact Nat.sub_le_sub_right hroom6 _);clear hr6 hC6 hroom6 hi06 hsz6 hc6;have KY6:=Sd.mk hy6;have KA6:=Sd.mk hA6;clear hy6 hA6;replace q6:=eq_true q6;go_enter Try.func74,Try.ntmps74
    go_upto_region 6 with (first|((with_reducible refine gate_dst (N:=19) rfl ?_);refine Kd.R_lit k61 _ 61 ?hg (N:=19) ?hd (xs:=([]:List (S61))) (inner:=[]) (ok:=fun _=>True) (okp:=fun _=>True) ?hr ?hp (fun _ hk=>hk) trivial (Below.refl _ _) (Nat.le_refl _) (by simp) ?_;(case hd=>rfl);(case hg=>rfl);(case hr=>first|(go_simp;done)|(go_simp;rfl));(case hp=>exact(Reps.none _ _));intro v543 w7 ho8 hb hg_ hnew_;clear hg_ hnew_;(first|rw[← Ny542.out] at ho8|(simp only[Int.reduceToNat] at ho8;rw[← Ny542.out] at ho8));replace HO0:=Sd.mk (Kd.V_elder' (Kd.Vz HO0.out) (Kd.R_base ho8) hb);replace HO541:=Sd.mk (Kd.V_elder' (Kd.Vz HO541.out) (Kd.R_base ho8) hb);have HO544:=Sd.mk (Kd.R_lower (Kd.R_newM (M:=fun k_=>(w.heap.size≤k_)) ho8 (below_size bz) (fun k_ h_=>h_)) (below_size bz));replace HB:=Sd.mk (below_step bz hb);clear hb ho8))
    (try simp only[Act.put,List.setIfInBounds_toArray,List.set_cons_zero,List.set_cons_succ])
    go_cut [25] (fun v25 wc=>∃ (kq:Nat) (x25_4:Bool),v25=.bool x25_4∧Sd (impl_takeOrd.j0 kq y537 (rd l0 0) y542 x25_4=some (r1,r2,r3))∧Sd (kq≤k)∧Sd (Kd.V (Kd.int .i64) 3 wc w.heap.size (fun k_=>(P0_ k_∨w.heap.size≤k_)∧some k_≠(v543:Value).ownBlock) (.slice A6 y537.length c6) y537)∧Sd (Kd.R k61 61 wc w.heap.size (fun k_=>(w.heap.size≤k_)) v543 y542)∧Sd (Below w.heap.size w wc))
    case first =>
     have H:=HC5.out;clear HC5
     by_cases c9:(rd l0 0)<0
     ·rw[if_pos c9] at H
      have c9b0:decide ((rd l0 0)<0)=true:=decide_eq_true c9;clear c9
      (first|rw[c9b0]|(simp only[i64_w,i32_w];rw[c9b0])|skip)
      have H':=Sd.mk H;clear H;go_wp2;go_meet
      case rel=>exact⟨_,(true),(by first|rfl|(simp;done)|(simp[*];done)),H',⟨by first|omega|exact Nat.le_refl _⟩,⟨by(with_reducible repeat (first|apply Kd.V_alloc|apply Kd.V_drewN|apply Kd.V_drew));exact HO541.out⟩,⟨Kd.Rz <| Kd.R_mono HO544.out (fun _ hk=>hk.1)⟩,⟨bz⟩⟩
     ·rw[if_neg c9] at H
      have c9b0:decide ((rd l0 0)<0)=false:=decide_eq_false c9;clear c9
      (first|rw[c9b0]|(simp only[i64_w,i32_w];rw[c9b0])|skip)
      have H':=Sd.mk H;clear H;go_wp2;go_meet
      case rel=>exact⟨_,(decide ((rd l0 0)>60)),(by first|rfl|(simp;done)|(simp[*];done)),H',⟨by first|omega|exact Nat.le_refl _⟩,⟨by(with_reducible repeat (first|apply Kd.V_alloc|apply Kd.V_drewN|apply Kd.V_drew));exact HO541.out⟩,⟨Kd.Rz <| Kd.R_mono HO544.out (fun _ hk=>hk.1)⟩,⟨bz⟩⟩
    case rest =>
     clear HC5
     try clear c1
     try clear c2
     try clear c2b0
     try clear c2b1
     try clear c2b2
     try clear p2
     try clear c3
     try clear c3b0
     try clear c3b1
     try clear c4
     try clear c4b0
     try clear c4b1
     try clear p5
     try clear q5
     try clear hx5
     try clear qi5
     try clear c6
     try clear q6
     try clear c7
     try clear c9
     try clear c9b0
     try clear hx536_0
     try clear p536
     try clear q536
     try clear q6
     obtain⟨kq,x25_4,rfl,HA,HJ4,HO_0,HO_6,HB⟩:=hcut
     cases kq with
     | zero=>exact absurd HA.out (by simp[impl_takeOrd.j0])
     | succ kj4 =>
      have H:=HA.out;clear HA;simp only[impl_takeOrd.j0] at H
      by_cases c10:x25_4=true
      ·subst c10
       have H1:(some (([]:List (S61)),([]:List Int),false))=some (r1,r2,r3):=by rw[if_pos rfl] at H;exact H
       clear H;have H:=H1;clear H1;simp only[Option.some.injEq,Prod.mk.injEq] at H;obtain⟨rfl,rfl,rfl⟩:=H;go_wp2;go_ret3;exact⟨_,_,by first|rfl|(simp[errW_none,errW_some]<;>rfl)|(simp[*,errW_none,errW_some]<;>rfl),by first|exact Kd.R_nil _ _ _ _ _|exact Kd.N_nil _ _ _ _ _|exact Kd.V_nil _ _ _ _ _|exact Kd.Q_nil _ _ _ _ _|exact Kd.S_nil _ _ _ _ _,Kd.V_nil _ _ _ _ _,bz⟩
      ·replace c10:=Bool.eq_false_iff.mpr c10
       subst c10
       have H1:(impl_takeOrd.l0 kj4 y537 y542 (rd l0 0) 0)=some (r1,r2,r3):=by rw[if_neg (show ¬ (false=true) by decide)] at H;exact H
       clear H;have H:=H1;clear H1;have H':=Sd.mk H;clear H;go_wp2
       go_loopg [0,6,27] kj4 (fun kq v0 v6 v27 w'=>∃ (x0_2:List Int) (x6_2:List (S61)) (x27_2:Int),v27=.int .i64 x27_2∧Sd (impl_takeOrd.l0 kq x0_2 x6_2 (rd l0 0) x27_2=some (r1,r2,r3))∧Sd (kq≤kj4)∧Sd (Kd.V (Kd.int .i64) 3 w' w.heap.size (fun k_=>(P0_ k_∨w.heap.size≤k_)∧some k_≠(v6:Value).ownBlock) v0 x0_2)∧Sd (Kd.R k61 61 w' w.heap.size (fun k_=>(w.heap.size≤k_)) v6 x6_2)∧Sd (Below w.heap.size w w'))
       case atStart=>exact⟨(y537),(y542),(0),(by first|rfl|(simp;done)|(simp[*];done)),H',⟨Nat.le_refl _⟩,⟨by(with_reducible repeat (first|apply Kd.V_alloc|apply Kd.V_drewN|apply Kd.V_drew));exact HO_0.out⟩,⟨by(with_reducible repeat (first|apply Kd.R_alloc|apply Kd.R_drewN|apply Kd.R_drew));exact HO_6.out⟩,⟨bz⟩⟩
       case round =>
        clear H'
        try clear c1
        try clear c2
        try clear c2b0
        try clear c2b1
        try clear c2b2
        try clear p2
        try clear c3
        try clear c3b0
        try clear c3b1
        try clear c4
        try clear c4b0
        try clear c4b1
        try clear p5
        try clear q5
        try clear hx5
        try clear qi5
        try clear c6
        try clear q6
        try clear c7
        try clear c9
        try clear c9b0
        try clear c10
        try clear hx536_0
        try clear p2
        try clear p5
        try clear p536
        try clear q5
        try clear q536
        try clear q6
        obtain⟨x0_2,x6_2,x27_2,rfl,HA,HK2,HO_0,HO_6,HB⟩:=hrel
        cases gk with
        | zero=>exact absurd HA.out (by simp[impl_takeOrd.l0])
        | succ k2 =>
         have H:=HA.out;clear HA;simp only[impl_takeOrd.l0] at H
         by_cases c11:x27_2<(rd l0 0)
         ·rw[if_pos c11] at H
          have c11b0:decide (x27_2<(rd l0 0))=true:=decide_eq_true c11;clear c11;have HC12:=Sd.mk H;clear H
          go_upto_region 11 with (fail)
          go_cut [44] (fun v44 wc=>∃ (kq:Nat) (x44_11:Bool),v44=.bool x44_11∧Sd (impl_takeOrd.j2 kq x0_2 x6_2 x27_2 (rd l0 0) x27_2 x44_11=some (r1,r2,r3))∧Sd (kq≤k2)∧Sd (Kd.V (Kd.int .i64) 3 wc w.heap.size (fun k_=>(P0_ k_∨w.heap.size≤k_)∧some k_≠(u6:Value).ownBlock) u0 x0_2)∧Sd (Kd.R k61 61 wc w.heap.size (fun k_=>(w.heap.size≤k_)) u6 x6_2)∧Sd (Below w.heap.size w wc))
          case first =>
           have H:=HC12.out;clear HC12
           by_cases c13:(x0_2.length:Int)=0
           ·rw[if_pos c13] at H
            have c13b0:((x0_2.length:Int) == 0)=true:=beq_iff_eq.mpr c13;have c13b1:((x0_2.length:Int) != 0)=false:=bne_eq_false_iff_eq.mpr c13;clear c13
            (first|rw[c13b0]|(simp only[i64_w,i32_w];rw[c13b0])|skip)
            have H':=Sd.mk H;clear H;obtain⟨Ao14,co14,eo14⟩:=Kd.V_slice HO_0.out;subst eo14;go_wp2;go_meet
            case rel=>exact⟨_,(true),(by first|rfl|(simp;done)|(simp[*];done)),H',⟨by have:=HJ4.out;have:=HK2.out;first|omega|exact Nat.le_refl _⟩,⟨by(with_reducible repeat (first|apply Kd.V_alloc|apply Kd.V_drewN|apply Kd.V_drew));exact HO_0.out⟩,⟨by(with_reducible repeat (first|apply Kd.R_alloc|apply Kd.R_drewN|apply Kd.R_drew));exact HO_6.out⟩,⟨bz⟩⟩
           ·rw[if_neg c13] at H
            have c13b0:((x0_2.length:Int) == 0)=false:=beq_eq_false_iff_ne.mpr c13;have c13b1:((x0_2.length:Int) != 0)=true:=bne_iff_ne.mpr c13;have c13b2:¬ (x0_2=[]):=fun h_=>c13 (by rw[h_];rfl)
            (first|rw[c13b0]|(simp only[i64_w,i32_w];rw[c13b0])|skip)
            by_cases c15:0<(x0_2.length:Int)
            ·rw[if_pos c15] at H
             have c15b0:decide (0<(x0_2.length:Int))=true:=decide_eq_true c15;have c15b1:decide (0<x0_2.length)=true:=decide_eq_true (by omega);clear c15
             by_cases c16:(rd x0_2 0)<1
             ·rw[if_pos c16] at H
              have c16b0:decide ((rd x0_2 0)<1)=true:=decide_eq_true c16;clear c16;have H':=Sd.mk H;clear H;obtain⟨Ao17,co17,eo17⟩:=Kd.V_slice HO_0.out;subst eo17;have p545:0≤(0:Int):=(by omega);have q545:0<(x0_2.length:Int):=dz;obtain⟨ad545,e545,hx545_0⟩:=Kd.at_int (Kd.V_reads' HO_0.out).2.2 0 p545 q545;cases e545;have qi545:(0<x0_2.length)=True:=eq_true (by omega)
              (try rw[show ((0:Int)).toNat=0 from rfl] at hx545_0)
              (try rw[Addr.add_zero'] at hx545_0)
              replace p545:=eq_true p545;replace q545:=eq_true q545;go_wp2;go_meet
              case rel=>exact⟨_,(true),(by first|rfl|(simp;done)|(simp[*];done)),H',⟨by have:=HJ4.out;have:=HK2.out;first|omega|exact Nat.le_refl _⟩,⟨by(with_reducible repeat (first|apply Kd.V_alloc|apply Kd.V_drewN|apply Kd.V_drew));exact HO_0.out⟩,⟨by(with_reducible repeat (first|apply Kd.R_alloc|apply Kd.R_drewN|apply Kd.R_drew));exact HO_6.out⟩,⟨bz⟩⟩
             ·rw[if_neg c16] at H
              have c16b0:decide ((rd x0_2 0)<1)=false:=decide_eq_false c16;clear c16;have H':=Sd.mk H;clear H;obtain⟨Ao18,co18,eo18⟩:=Kd.V_slice HO_0.out;subst eo18;have p545:0≤(0:Int):=(by omega);have q545:0<(x0_2.length:Int):=dz;obtain⟨ad545,e545,hx545_0⟩:=Kd.at_int (Kd.V_reads' HO_0.out).2.2 0 p545 q545;cases e545;have qi545:(0<x0_2.length)=True:=eq_true (by omega)
              (try rw[show ((0:Int)).toNat=0 from rfl] at hx545_0)
              (try rw[Addr.add_zero'] at hx545_0)
              replace p545:=eq_true p545;replace q545:=eq_true q545;have p546:0≤(0:Int):=(by omega);have q546:0<(x0_2.length:Int):=dz;obtain⟨ad546,e546,hx546_0⟩:=Kd.at_int (Kd.V_reads' HO_0.out).2.2 0 p546 q546;obtain rfl:ad545=ad546:=(by injection e546);have qi546:(0<x0_2.length)=True:=eq_true (by omega)
              (try rw[show ((0:Int)).toNat=0 from rfl] at hx546_0)
              (try rw[Addr.add_zero'] at hx546_0)
              replace p546:=eq_true p546;replace q546:=eq_true q546;go_wp2;go_meet
              case rel=>exact⟨_,(decide ((rd x0_2 0)>9999)),(by first|rfl|(simp;done)|(simp[*];done)),H',⟨by have:=HJ4.out;have:=HK2.out;first|omega|exact Nat.le_refl _⟩,⟨by(with_reducible repeat (first|apply Kd.V_alloc|apply Kd.V_drewN|apply Kd.V_drew));exact HO_0.out⟩,⟨by(with_reducible repeat (first|apply Kd.R_alloc|apply Kd.R_drewN|apply Kd.R_drew));exact HO_6.out⟩,⟨bz⟩⟩
            ·rw[if_neg c15] at H
             exact absurd H (by simp)
          case rest =>
           clear HC12
           try clear c1
           try clear c2
           try clear c2b0
           try clear c2b1
           try clear c2b2
           try clear p2
           try clear c3
           try clear c3b0
           try clear c3b1
           try clear c4
           try clear c4b0
           try clear c4b1
           try clear p5
           try clear q5
           try clear hx5
           try clear qi5
           try clear c6
           try clear q6
           try clear c7
           try clear c9
           try clear c9b0
           try clear c10
           try clear c11
           try clear c11b0
           try clear c13
           try clear c13b0
           try clear c13b1
           try clear c13b2
           try clear c15
           try clear c15b0
           try clear c15b1
           try clear c16
           try clear c16b0
           try clear hx536_0
           try clear hx545_0
           try clear hx546_0
           try clear p2
           try clear p5
           try clear p536
           try clear p545
           try clear p546
           try clear q5
           try clear q536
           try clear q545
           try clear q546
           try clear q6
           obtain⟨kq,x44_11,rfl,HA,HJ11,HO_0,HO_6,HB⟩:=hcut
           cases kq with
           | zero=>exact absurd HA.out (by simp[impl_takeOrd.j2])
           | succ kj11 =>
            have H:=HA.out;clear HA;simp only[impl_takeOrd.j2] at H
            by_cases c19:x44_11=true
            ·subst c19
             have H1:(some (([]:List (S61)),([]:List Int),false))=some (r1,r2,r3):=by rw[if_pos rfl] at H;exact H
             clear H;have H:=H1;clear H1;simp only[Option.some.injEq,Prod.mk.injEq] at H;obtain⟨rfl,rfl,rfl⟩:=H;go_wp2;go_ret3;exact⟨_,_,by first|rfl|(simp[errW_none,errW_some]<;>rfl)|(simp[*,errW_none,errW_some]<;>rfl),by first|exact Kd.R_nil _ _ _ _ _|exact Kd.N_nil _ _ _ _ _|exact Kd.V_nil _ _ _ _ _|exact Kd.Q_nil _ _ _ _ _|exact Kd.S_nil _ _ _ _ _,Kd.V_nil _ _ _ _ _,bz⟩
            ·replace c19:=Bool.eq_false_iff.mpr c19
             subst c19
             have H1:(if 1≤(x0_2.length:Int) then((impl_takeOrd.f kj11 (x0_2.drop 1)).bind fun bt552=>(if bt552.2.2=true then(if x27_2>0 then(if 0≤(wrap64 (x27_2-1)) then(if(wrap64 (x27_2-1))<(x6_2.length:Int) then((impl_compare.f kj11 bt552.1 ((rd_T61 x6_2 (wrap64 (x27_2-1))).f1)).bind fun t560=>(if t560≥0 then(some (([]:List (S61)),([]:List Int),false)) else(if 0<(x0_2.length:Int) then(if x6_2.length<4398046511104 then(impl_takeOrd.l0 kj11 bt552.2.1 (x6_2++[(⟨rd x0_2 0,bt552.1⟩:S61)]) (rd l0 0) (wrap64 (x27_2+1))) else(none)) else(none)))) else(none)) else(none)) else(if 0<(x0_2.length:Int) then(if x6_2.length<4398046511104 then(impl_takeOrd.l0 kj11 bt552.2.1 (x6_2++[(⟨rd x0_2 0,bt552.1⟩:S61)]) (rd l0 0) (wrap64 (x27_2+1))) else(none)) else(none))) else(some (([]:List (S61)),([]:List Int),false)))) else(none))=some (r1,r2,r3):=by rw[if_neg (show ¬ (false=true) by decide)] at H;exact H
             clear H;have H:=H1;clear H1
             by_cases c20:1≤(x0_2.length:Int)
             ·rw[if_pos c20] at H
              have c20b0:=eq_true c20;have c20b1:decide (1≤(x0_2.length:Int))=true:=decide_eq_true c20;clear c20;obtain⟨y547,hy547⟩:∃ y_:List Int,y_=(x0_2.drop 1):=⟨_,rfl⟩;replace H:((impl_takeOrd.f kj11 y547).bind fun bt552=>(if bt552.2.2=true then(if x27_2>0 then(if 0≤(wrap64 (x27_2-1)) then(if(wrap64 (x27_2-1))<(x6_2.length:Int) then((impl_compare.f kj11 bt552.1 ((rd_T61 x6_2 (wrap64 (x27_2-1))).f1)).bind fun t560=>(if t560≥0 then(some (([]:List (S61)),([]:List Int),false)) else(if 0<(x0_2.length:Int) then(if x6_2.length<4398046511104 then(impl_takeOrd.l0 kj11 bt552.2.1 (x6_2++[(⟨rd x0_2 0,bt552.1⟩:S61)]) (rd l0 0) (wrap64 (x27_2+1))) else(none)) else(none)))) else(none)) else(none)) else(if 0<(x0_2.length:Int) then(if x6_2.length<4398046511104 then(impl_takeOrd.l0 kj11 bt552.2.1 (x6_2++[(⟨rd x0_2 0,bt552.1⟩:S61)]) (rd l0 0) (wrap64 (x27_2+1))) else(none)) else(none))) else(some (([]:List (S61)),([]:List Int),false))))=some (r1,r2,r3):=hz hy547 H;have Ny547:=Sd.mk hy547;clear hy547;replace H:=Option.bind_eq_some_iff.mp H;obtain⟨⟨t552,t555,t558⟩,A210,H⟩:=H;replace H:(if t558=true then(if x27_2>0 then(if 0≤(wrap64 (x27_2-1)) then(if(wrap64 (x27_2-1))<(x6_2.length:Int) then((impl_compare.f kj11 t552 ((rd_T61 x6_2 (wrap64 (x27_2-1))).f1)).bind fun t560=>(if t560≥0 then(some (([]:List (S61)),([]:List Int),false)) else(if 0<(x0_2.length:Int) then(if x6_2.length<4398046511104 then(impl_takeOrd.l0 kj11 t555 (x6_2++[(⟨rd x0_2 0,t552⟩:S61)]) (rd l0 0) (wrap64 (x27_2+1))) else(none)) else(none)))) else(none)) else(none)) else(if 0<(x0_2.length:Int) then(if x6_2.length<4398046511104 then(impl_takeOrd.l0 kj11 t555 (x6_2++[(⟨rd x0_2 0,t552⟩:S61)]) (rd l0 0) (wrap64 (x27_2+1))) else(none)) else(none))) else(some (([]:List (S61)),([]:List Int),false)))=some (r1,r2,r3):=H;have A21:=Sd.mk A210;clear A210
              by_cases c22:t558=true
              ·subst c22
               have H1:(if x27_2>0 then(if 0≤(wrap64 (x27_2-1)) then(if(wrap64 (x27_2-1))<(x6_2.length:Int) then((impl_compare.f kj11 t552 ((rd_T61 x6_2 (wrap64 (x27_2-1))).f1)).bind fun t560=>(if t560≥0 then(some (([]:List (S61)),([]:List Int),false)) else(if 0<(x0_2.length:Int) then(if x6_2.length<4398046511104 then(impl_takeOrd.l0 kj11 t555 (x6_2++[(⟨rd x0_2 0,t552⟩:S61)]) (rd l0 0) (wrap64 (x27_2+1))) else(none)) else(none)))) else(none)) else(none)) else(if 0<(x0_2.length:Int) then(if x6_2.length<4398046511104 then(impl_takeOrd.l0 kj11 t555 (x6_2++[(⟨rd x0_2 0,t552⟩:S61)]) (rd l0 0) (wrap64 (x27_2+1))) else(none)) else(none)))=some (r1,r2,r3):=by rw[if_pos rfl] at H;exact H
               clear H;have H:=H1;clear H1
               by_cases c23:x27_2>0
               ·rw[if_pos c23] at H
                have c23b0:decide (0<x27_2)=true:=decide_eq_true c23;clear c23;obtain⟨ji24,hji24⟩:∃ j_:Int,(wrap64 (x27_2-1))=j_:=⟨_,rfl⟩
                replace H:(if 0≤(ji24) then(if(ji24)<(x6_2.length:Int) then((impl_compare.f kj11 t552 ((rd_T61 x6_2 (ji24)).f1)).bind fun t560=>(if t560≥0 then(some (([]:List (S61)),([]:List Int),false)) else(if 0<(x0_2.length:Int) then(if x6_2.length<4398046511104 then(impl_takeOrd.l0 kj11 t555 (x6_2++[(⟨rd x0_2 0,t552⟩:S61)]) (rd l0 0) (wrap64 (x27_2+1))) else(none)) else(none)))) else(none)) else(none))=some (r1,r2,r3):=by first|(rw[hji24] at H;exact H)|(simp only[hji24] at H ⊢;exact H)
                (try rw[hji24] at A21)
                have hji24w:(IntKind.i64.wrap (x27_2-1))=ji24:=(i64_w _).trans hji24
                by_cases c25:0≤(ji24)
                ·rw[if_pos c25] at H
                 have c25b0:decide (0≤(ji24))=true:=decide_eq_true c25;clear c25
                 by_cases c26:(ji24)<(x6_2.length:Int)
                 ·rw[if_pos c26] at H
                  have c26b0:decide ((ji24)<(x6_2.length:Int))=true:=decide_eq_true c26;clear c26;replace H:=Option.bind_eq_some_iff.mp H;obtain⟨t560,A270,H⟩:=H;replace H:(if t560≥0 then(some (([]:List (S61)),([]:List Int),false)) else(if 0<(x0_2.length:Int) then(if x6_2.length<4398046511104 then(impl_takeOrd.l0 kj11 t555 (x6_2++[(⟨rd x0_2 0,t552⟩:S61)]) (rd l0 0) (wrap64 (x27_2+1))) else(none)) else(none)))=some (r1,r2,r3):=H;have A27:=Sd.mk A270;clear A270
                  by_cases c28:t560≥0
                  ·rw[if_pos c28] at H
                   have c28b0:decide (0≤t560)=true:=decide_eq_true c28;clear c28;simp only[Option.some.injEq,Prod.mk.injEq] at H;obtain⟨rfl,rfl,rfl⟩:=H;obtain⟨Ao30,co30,eo30⟩:=Kd.V_slice HO_0.out;subst eo30;have q29:(1:Int)≤((x0_2.length:Int):Int):=dz;obtain⟨i029,hi029,_,hsz29,_⟩:=info_parts info3;have hroom29:x0_2.length≤co30:=(Kd.V_reads' HO_0.out).2.1;have hC29:Kd.F (Kd.int .i64) _ _ Ao30 x0_2.length x0_2:=(Kd.V_at (base:=w.heap.size) HO_0.out).2.2;have hcut29:=cut_from (P:=Try.prog) 22 3 .i64 Try.underlying22 hi029 1 hsz29 Ao30 x0_2.length co30 1 (by omega) q29;have hr29:=Kd.F_cut (m:=(1:Int).toNat) (c:=co30) hC29 (by omega) hroom29;obtain⟨A29,hA29⟩:∃ Aq_,Aq_=(if co30=(1:Int).toNat then Ao30 else(Ao30:Option Addr).map (·.add ((1:Int).toNat*1))):=⟨_,rfl⟩;obtain⟨c29,hc29⟩:∃ cq_,cq_=co30-(1:Int).toNat:=⟨_,rfl⟩;have hy29:y547.length=x0_2.length-(1:Int).toNat:=(by rw[Ny547.out,List.length_drop]<;>omega);rw[show (x0_2).drop (1:Int).toNat=y547 from Ny547.out.symm] at hr29;replace hr29:Kd.F (Kd.int .i64) _ _ A29 y547.length y547:=(by rw[hA29];exact hr29);rw[← hy29,← hA29,← hc29] at hcut29;have HO551:=Sd.mk (show Kd.V (Kd.int .i64) 3 _ w.heap.size _ (.slice A29 y547.length c29) y547 from Kd.V_mk (by rw[hy29,hc29];exact Nat.sub_le_sub_right hroom29 _) hr29);have HC551:=Sd.mk (show y547.length≤c29 from by rw[hy29,hc29];exact Nat.sub_le_sub_right hroom29 _);clear hr29 hC29 hroom29 hi029 hsz29 hc29;have KY29:=Sd.mk hy29;have KA29:=Sd.mk hA29;clear hy29 hA29;replace q29:=eq_true q29;go_wp2_with (first|((with_reducible refine gate_callee (f:=74) rfl ?_);refine goesL_ (some 48) rfl rfl Try.func74 (by kernel_rfl) rfl #[.slice A29 y547.length c29] rfl az ?_;(with_reducible refine(ih kj11 (by have:=HJ4.out;have:=HK2.out;have:=HJ11.out;omega) (fun k_=>((P0_ k_∨w.heap.size≤k_)∧some k_≠(u6:Value).ownBlock)) _ _ y547 t552 t555 true _ ?side1 A21.out).mono ?_);(case side1=>exact HO551.out);rintro e w31 ⟨v553,v556,rfl,ho0,ho1,hb⟩;refine⟨_,rfl,?_⟩;replace HO_0:=Sd.mk (Kd.V_elder' (Kd.Vz HO_0.out) (Kd.R_base ho0) hb);replace HO551:=Sd.mk (Kd.V_elder' (Kd.Vz HO551.out) (Kd.R_base ho0) hb);have HO554:=Sd.mk (Kd.R_lower (Kd.R_new' (Kd.R_newM (M:=fun k_=>(w.heap.size≤k_)) (Kd.R_mono (ok':=fun k_=>True) ho0 (fun _ hk_=>trivial)) (below_size bz) (fun k_ h_=>h_)) (Kd.R_lt (Kd.Rz HO_6.out))) (below_size bz));have HO557:=Sd.mk (Kd.V_lower (Kd.V_mono (ok':=fun k_=>(P0_ k_∨w.heap.size≤k_)∧some k_≠(v553:Value).ownBlock∧some k_≠(u6:Value).ownBlock) ho1 (fun k_ hk_=>⟨Or.elim hk_.1 (fun hs_=>hs_.1) (fun hn_=>(.inr (Nat.le_trans (below_size bz) hn_))),hk_.2,Or.elim hk_.1 (fun hs_=>hs_.2) (fun hn_=>(Kd.fresh' (Kd.R_lt (Kd.Rz HO_6.out)) k_ hn_))⟩)) (below_size bz));replace HO_6:=Sd.mk (Kd.R_elder' (Kd.Rz HO_6.out) (Kd.R_base ho0) hb);replace HB:=Sd.mk (below_step bz hb);(try clear hb);(try clear hb2);(try clear hk);(try clear hi);(try clear ho0);(try clear ho1);obtain⟨Ao32,co32,eo32⟩:=Kd.R_slice HO_6.out;subst eo32;have p559:0≤((ji24):Int):=dz;have q559:(ji24)<(x6_2.length:Int):=dz;obtain⟨ad559,A559_1,c559_1,e559,hx559_0,hx559_1,hl559_1,hi559_1⟩:=at_T61 (Kd.R_reads' HO_6.out).2.2 (ji24) p559 q559;cases e559;obtain⟨ce559,hce559,hMe559,hcc559⟩:=Kd.R_get HO_6.out z61 (ji24) p559 (by first|exact q559|exact dz|(have e_:=(Kd.R_reads' HO_6.out).1;omega));obtain⟨ve559_1,rfl,ge559_1⟩:=k61_openM hMe559;have hv559_1:=hcc559 1 _ rfl;rw[add_field _ _ 1 (by omega)] at hv559_1;replace hv559_1:=Option.some.inj (hv559_1.symm.trans hx559_1);rw[hv559_1] at ge559_1;have HL559_1:=Sd.mk (show Kd.R k61 61 _ _ _ _ ((rd_T61 x6_2 (ji24)).f1) from ge559_1);clear hv559_1 ge559_1;clear hcc559 hce559;have HR559_1:=Sd.mk hi559_1;have HC559_1:=Sd.mk hl559_1;clear hi559_1 hl559_1;replace p559:=eq_true p559;replace q559:=eq_true q559;obtain⟨Ao33,co33,eo33⟩:=Kd.R_slice HO554.out;subst eo33)|(go_at_call 50;(with_reducible refine(impl_compare.calls kj11 _ _ t552 _ _ ((rd_T61 x6_2 (ji24)).f1) t560 _ ?side1 ?side2 ?side3 ?side4 A27.out).mono ?_);(case side1=>exact Kd.Cz (Kd.R_reads' HO554.out).2.2);(case side2=>exact(Kd.R_reads' HO554.out).2.1);(case side3=>exact(Kd.Cz HR559_1.out));(case side4=>exact HC559_1.out);rintro e w34 ⟨rfl,hb⟩;replace HO_0:=Sd.mk (Kd.V_below (Kd.Vz HO_0.out) hb);replace HO_6:=Sd.mk (Kd.R_below (Kd.Rz HO_6.out) hb);replace HO551:=Sd.mk (Kd.V_below (Kd.Vz HO551.out) hb);replace HO554:=Sd.mk (Kd.R_below (Kd.Rz HO554.out) hb);replace HO557:=Sd.mk (Kd.V_below (Kd.Vz HO557.out) hb);replace HL559_1:=Sd.mk (Kd.R_below (Kd.Rz HL559_1.out) hb);replace HR559_1:=Sd.mk (Kd.C_below (Kd.Cz HR559_1.out) hb);replace HB:=Sd.mk (below_step bz hb);(try clear hb);(try clear hb2);(try clear hk);(try clear hi)));go_ret3;exact⟨_,_,by first|rfl|(simp[errW_none,errW_some]<;>rfl)|(simp only[← hji24];first|rfl|(simp[errW_none,errW_some]<;>rfl))|(simp[*,errW_none,errW_some]<;>rfl),by first|exact Kd.R_nil _ _ _ _ _|exact Kd.N_nil _ _ _ _ _|exact Kd.V_nil _ _ _ _ _|exact Kd.Q_nil _ _ _ _ _|exact Kd.S_nil _ _ _ _ _,Kd.V_nil _ _ _ _ _,bz⟩
                  ·rw[if_neg c28] at H
                   have c28b0:decide (0≤t560)=false:=decide_eq_false c28;clear c28
                   by_cases c35:0<(x0_2.length:Int)
                   ·rw[if_pos c35] at H
                    have c35b0:decide (0<(x0_2.length:Int))=true:=decide_eq_true c35;have c35b1:decide (0<x0_2.length)=true:=decide_eq_true (by omega);clear c35
                    by_cases c36:x6_2.length<4398046511104
                    ·rw[if_pos c36] at H
                     have LMc36:=Sd.mk c36;clear c36;obtain⟨y562,hy562⟩:∃ y_:List (S61),y_=(x6_2++[(⟨rd x0_2 0,t552⟩:S61)]):=⟨_,rfl⟩;replace H:(impl_takeOrd.l0 kj11 t555 y562 (rd l0 0) (wrap64 (x27_2+1)))=some (r1,r2,r3):=hz hy562 H;have Ny562:=Sd.mk hy562;clear hy562;have H':=Sd.mk H;clear H;obtain⟨Ao38,co38,eo38⟩:=Kd.V_slice HO_0.out;subst eo38;have q37:(1:Int)≤((x0_2.length:Int):Int):=dz;obtain⟨i037,hi037,_,hsz37,_⟩:=info_parts info3;have hroom37:x0_2.length≤co38:=(Kd.V_reads' HO_0.out).2.1;have hC37:Kd.F (Kd.int .i64) _ _ Ao38 x0_2.length x0_2:=(Kd.V_at (base:=w.heap.size) HO_0.out).2.2;have hcut37:=cut_from (P:=Try.prog) 22 3 .i64 Try.underlying22 hi037 1 hsz37 Ao38 x0_2.length co38 1 (by omega) q37;have hr37:=Kd.F_cut (m:=(1:Int).toNat) (c:=co38) hC37 (by omega) hroom37;obtain⟨A37,hA37⟩:∃ Aq_,Aq_=(if co38=(1:Int).toNat then Ao38 else(Ao38:Option Addr).map (·.add ((1:Int).toNat*1))):=⟨_,rfl⟩;obtain⟨c37,hc37⟩:∃ cq_,cq_=co38-(1:Int).toNat:=⟨_,rfl⟩;have hy37:y547.length=x0_2.length-(1:Int).toNat:=(by rw[Ny547.out,List.length_drop]<;>omega);rw[show (x0_2).drop (1:Int).toNat=y547 from Ny547.out.symm] at hr37;replace hr37:Kd.F (Kd.int .i64) _ _ A37 y547.length y547:=(by rw[hA37];exact hr37);rw[← hy37,← hA37,← hc37] at hcut37;have HO551:=Sd.mk (show Kd.V (Kd.int .i64) 3 _ w.heap.size _ (.slice A37 y547.length c37) y547 from Kd.V_mk (by rw[hy37,hc37];exact Nat.sub_le_sub_right hroom37 _) hr37);have HC551:=Sd.mk (show y547.length≤c37 from by rw[hy37,hc37];exact Nat.sub_le_sub_right hroom37 _);clear hr37 hC37 hroom37 hi037 hsz37 hc37;have KY37:=Sd.mk hy37;have KA37:=Sd.mk hA37;clear hy37 hA37;replace q37:=eq_true q37;go_wp2_with (first|((with_reducible refine gate_callee (f:=74) rfl ?_);refine goesL_ (some 48) rfl rfl Try.func74 (by kernel_rfl) rfl #[.slice A37 y547.length c37] rfl az ?_;(with_reducible refine(ih kj11 (by have:=HJ4.out;have:=HK2.out;have:=HJ11.out;omega) (fun k_=>((P0_ k_∨w.heap.size≤k_)∧some k_≠(u6:Value).ownBlock)) _ _ y547 t552 t555 true _ ?side1 A21.out).mono ?_);(case side1=>exact HO551.out);rintro e w39 ⟨v553,v556,rfl,ho0,ho1,hb⟩;refine⟨_,rfl,?_⟩;replace HO_0:=Sd.mk (Kd.V_elder' (Kd.Vz HO_0.out) (Kd.R_base ho0) hb);replace HO551:=Sd.mk (Kd.V_elder' (Kd.Vz HO551.out) (Kd.R_base ho0) hb);have HO554:=Sd.mk (Kd.R_lower (Kd.R_new' (Kd.R_newM (M:=fun k_=>(w.heap.size≤k_)) (Kd.R_mono (ok':=fun k_=>True) ho0 (fun _ hk_=>trivial)) (below_size bz) (fun k_ h_=>h_)) (Kd.R_lt (Kd.Rz HO_6.out))) (below_size bz));have HO557:=Sd.mk (Kd.V_lower (Kd.V_mono (ok':=fun k_=>(P0_ k_∨w.heap.size≤k_)∧some k_≠(v553:Value).ownBlock∧some k_≠(u6:Value).ownBlock) ho1 (fun k_ hk_=>⟨Or.elim hk_.1 (fun hs_=>hs_.1) (fun hn_=>(.inr (Nat.le_trans (below_size bz) hn_))),hk_.2,Or.elim hk_.1 (fun hs_=>hs_.2) (fun hn_=>(Kd.fresh' (Kd.R_lt (Kd.Rz HO_6.out)) k_ hn_))⟩)) (below_size bz));replace HO_6:=Sd.mk (Kd.R_elder' (Kd.Rz HO_6.out) (Kd.R_base ho0) hb);replace HB:=Sd.mk (below_step bz hb);(try clear hb);(try clear hb2);(try clear hk);(try clear hi);(try clear ho0);(try clear ho1);obtain⟨Ao40,co40,eo40⟩:=Kd.R_slice HO_6.out;subst eo40;have p559:0≤((ji24):Int):=dz;have q559:(ji24)<(x6_2.length:Int):=dz;obtain⟨ad559,A559_1,c559_1,e559,hx559_0,hx559_1,hl559_1,hi559_1⟩:=at_T61 (Kd.R_reads' HO_6.out).2.2 (ji24) p559 q559;cases e559;obtain⟨ce559,hce559,hMe559,hcc559⟩:=Kd.R_get HO_6.out z61 (ji24) p559 (by first|exact q559|exact dz|(have e_:=(Kd.R_reads' HO_6.out).1;omega));obtain⟨ve559_1,rfl,ge559_1⟩:=k61_openM hMe559;have hv559_1:=hcc559 1 _ rfl;rw[add_field _ _ 1 (by omega)] at hv559_1;replace hv559_1:=Option.some.inj (hv559_1.symm.trans hx559_1);rw[hv559_1] at ge559_1;have HL559_1:=Sd.mk (show Kd.R k61 61 _ _ _ _ ((rd_T61 x6_2 (ji24)).f1) from ge559_1);clear hv559_1 ge559_1;clear hcc559 hce559;have HR559_1:=Sd.mk hi559_1;have HC559_1:=Sd.mk hl559_1;clear hi559_1 hl559_1;replace p559:=eq_true p559;replace q559:=eq_true q559;obtain⟨Ao41,co41,eo41⟩:=Kd.R_slice HO554.out;subst eo41)|(go_at_call 50;(with_reducible refine(impl_compare.calls kj11 _ _ t552 _ _ ((rd_T61 x6_2 (ji24)).f1) t560 _ ?side1 ?side2 ?side3 ?side4 A27.out).mono ?_);(case side1=>exact Kd.Cz (Kd.R_reads' HO554.out).2.2);(case side2=>exact(Kd.R_reads' HO554.out).2.1);(case side3=>exact(Kd.Cz HR559_1.out));(case side4=>exact HC559_1.out);rintro e w42 ⟨rfl,hb⟩;replace HO_0:=Sd.mk (Kd.V_below (Kd.Vz HO_0.out) hb);replace HO_6:=Sd.mk (Kd.R_below (Kd.Rz HO_6.out) hb);replace HO551:=Sd.mk (Kd.V_below (Kd.Vz HO551.out) hb);replace HO554:=Sd.mk (Kd.R_below (Kd.Rz HO554.out) hb);replace HO557:=Sd.mk (Kd.V_below (Kd.Vz HO557.out) hb);replace HL559_1:=Sd.mk (Kd.R_below (Kd.Rz HL559_1.out) hb);replace HR559_1:=Sd.mk (Kd.C_below (Kd.Cz HR559_1.out) hb);replace HB:=Sd.mk (below_step bz hb);(try clear hb);(try clear hb2);(try clear hk);(try clear hi);have p561:0≤(0:Int):=(by omega);have q561:0<(x0_2.length:Int):=dz;obtain⟨ad561,e561,hx561_0⟩:=Kd.at_int (Kd.V_reads' HO_0.out).2.2 0 p561 q561;cases e561;have qi561:(0<x0_2.length)=True:=eq_true (by omega);(try rw[show ((0:Int)).toNat=0 from rfl] at hx561_0);(try rw[Addr.add_zero'] at hx561_0);replace p561:=eq_true p561;replace q561:=eq_true q561)|((with_reducible refine gate_builtin (b:=.append) (xs:=#[.tmp 69,.tmp 75]) rfl ?_);at_builtin;refine Kd.R_append k61 (w0:=w) w.heap.size rfl (.tmp 69) (.tmp 75) 46 61 (.agg #[(.int .i64 0),(.slice none 0 0)]) 32 rfl Try.underlying46 info61 rfl (by decide) (by omega) (.slice (some ad559) x6_2.length co40) x6_2 (⟨rd x0_2 0,t552⟩:S61) [.int .i64 (rd x0_2 0),.slice Ao41 t552.length co41] (fun k_=>(w.heap.size≤k_)) (fun k_=>((fun k_=>(w.heap.size≤k_))) k_∧some k_≠(.slice (some ad559) x6_2.length co40:Value).ownBlock) rfl rfl ?aP (fun _ hk=>hk) ?aF ?aO ?aB ?aS ?aL ?_;(case aP=>exact k61_mkM _ _ _ (⟨rd x0_2 0,t552⟩:S61) (Kd.R_mono (HO554.out) (fun k_ hk=>⟨hk.1.1,hk.2⟩)));(case aB=>exact bz);(case aF=>exact(fun k_ hk=>(Nat.le_trans (below_size bz) hk)));(case aO=>exact(Kd.Rz <| Kd.R_mono HO_6.out (fun _ hk=>hk.1)));(case aS=>exact(below_size bz));(case aL=>have:=LMc36.out;omega);intro v563 w43 ho hb hg hat;rw[← Ny562.out] at ho;replace HO_0:=Sd.mk (Kd.V_afterv (ok:=(fun k_=>(P0_ k_∨w.heap.size≤k_)∧some k_≠(.slice Ao41 t552.length co41:Value).ownBlock)) (Kd.Vz <| Kd.V_mono HO_0.out (fun _ hk=>⟨⟨hk.1.1,hk.2⟩,hk.1.2⟩)) hg hat);replace HO551:=Sd.mk (Kd.V_afterv (ok:=(fun k_=>(P0_ k_∨w.heap.size≤k_)∧some k_≠(.slice Ao41 t552.length co41:Value).ownBlock)) (Kd.Vz <| Kd.V_mono HO551.out (fun _ hk=>⟨⟨hk.1.1,hk.2⟩,hk.1.2⟩)) hg hat);replace HO557:=Sd.mk (Kd.V_afterv (ok:=(fun k_=>(P0_ k_∨w.heap.size≤k_)∧some k_≠(.slice Ao41 t552.length co41:Value).ownBlock)) (Kd.Vz <| Kd.V_mono HO557.out (fun _ hk=>⟨⟨hk.1,hk.2.1⟩,hk.2.2⟩)) hg hat);replace HL559_1:=Sd.mk (Kd.R_after (ok:=(fun k_=>(w.heap.size≤k_)∧some k_≠(.slice Ao41 t552.length co41:Value).ownBlock)) (Kd.Rz HL559_1.out) hg hat);replace HB:=Sd.mk (hb);have HO564:=Sd.mk (ho);clear HO_6 HO554;clear ho hb hg hat))
                     go_roundg kj11
                     case measure=>have:=HJ4.out;have:=HK2.out;have:=HJ11.out;omega
                     case rel=>exact⟨(t555),(y562),(wrap64 (x27_2+1)),(by first|rfl|(simp;done)|(simp[*];done)),H',⟨by have:=HJ4.out;have:=HK2.out;have:=HJ11.out;omega⟩,⟨Kd.Vz <| Kd.V_mono HO557.out (fun _ hk=>⟨hk.1.1,hk.2⟩)⟩,⟨by(with_reducible repeat (first|apply Kd.R_alloc|apply Kd.R_drewN|apply Kd.R_drew));exact HO564.out⟩,⟨bz⟩⟩
                    ·rw[if_neg c36] at H
                     exact absurd H (by simp)
                   ·rw[if_neg c35] at H
                    exact absurd H (by simp)
                 ·rw[if_neg c26] at H
                  exact absurd H (by simp)
                ·rw[if_neg c25] at H
                 exact absurd H (by simp)
               ·rw[if_neg c23] at H
                have c23b0:decide (0<x27_2)=false:=decide_eq_false c23;clear c23
                by_cases c44:0<(x0_2.length:Int)
                ·rw[if_pos c44] at H
                 have c44b0:decide (0<(x0_2.length:Int))=true:=decide_eq_true c44;have c44b1:decide (0<x0_2.length)=true:=decide_eq_true (by omega);clear c44
                 by_cases c45:x6_2.length<4398046511104
                 ·rw[if_pos c45] at H
                  have LMc45:=Sd.mk c45;clear c45;obtain⟨y566,hy566⟩:∃ y_:List (S61),y_=(x6_2++[(⟨rd x0_2 0,t552⟩:S61)]):=⟨_,rfl⟩;replace H:(impl_takeOrd.l0 kj11 t555 y566 (rd l0 0) (wrap64 (x27_2+1)))=some (r1,r2,r3):=hz hy566 H;have Ny566:=Sd.mk hy566;clear hy566;have H':=Sd.mk H;clear H;obtain⟨Ao47,co47,eo47⟩:=Kd.V_slice HO_0.out;subst eo47;have q46:(1:Int)≤((x0_2.length:Int):Int):=dz;obtain⟨i046,hi046,_,hsz46,_⟩:=info_parts info3;have hroom46:x0_2.length≤co47:=(Kd.V_reads' HO_0.out).2.1;have hC46:Kd.F (Kd.int .i64) _ _ Ao47 x0_2.length x0_2:=(Kd.V_at (base:=w.heap.size) HO_0.out).2.2;have hcut46:=cut_from (P:=Try.prog) 22 3 .i64 Try.underlying22 hi046 1 hsz46 Ao47 x0_2.length co47 1 (by omega) q46;have hr46:=Kd.F_cut (m:=(1:Int).toNat) (c:=co47) hC46 (by omega) hroom46;obtain⟨A46,hA46⟩:∃ Aq_,Aq_=(if co47=(1:Int).toNat then Ao47 else(Ao47:Option Addr).map (·.add ((1:Int).toNat*1))):=⟨_,rfl⟩;obtain⟨c46,hc46⟩:∃ cq_,cq_=co47-(1:Int).toNat:=⟨_,rfl⟩;have hy46:y547.length=x0_2.length-(1:Int).toNat:=(by rw[Ny547.out,List.length_drop]<;>omega);rw[show (x0_2).drop (1:Int).toNat=y547 from Ny547.out.symm] at hr46;replace hr46:Kd.F (Kd.int .i64) _ _ A46 y547.length y547:=(by rw[hA46];exact hr46);rw[← hy46,← hA46,← hc46] at hcut46;have HO551:=Sd.mk (show Kd.V (Kd.int .i64) 3 _ w.heap.size _ (.slice A46 y547.length c46) y547 from Kd.V_mk (by rw[hy46,hc46];exact Nat.sub_le_sub_right hroom46 _) hr46);have HC551:=Sd.mk (show y547.length≤c46 from by rw[hy46,hc46];exact Nat.sub_le_sub_right hroom46 _);clear hr46 hC46 hroom46 hi046 hsz46 hc46;have KY46:=Sd.mk hy46;have KA46:=Sd.mk hA46;clear hy46 hA46;replace q46:=eq_true q46;go_wp2_with (first|((with_reducible refine gate_callee (f:=74) rfl ?_);refine goesL_ (some 48) rfl rfl Try.func74 (by kernel_rfl) rfl #[.slice A46 y547.length c46] rfl az ?_;(with_reducible refine(ih kj11 (by have:=HJ4.out;have:=HK2.out;have:=HJ11.out;omega) (fun k_=>((P0_ k_∨w.heap.size≤k_)∧some k_≠(u6:Value).ownBlock)) _ _ y547 t552 t555 true _ ?side1 A21.out).mono ?_);(case side1=>exact HO551.out);rintro e w48 ⟨v553,v556,rfl,ho0,ho1,hb⟩;refine⟨_,rfl,?_⟩;replace HO_0:=Sd.mk (Kd.V_elder' (Kd.Vz HO_0.out) (Kd.R_base ho0) hb);replace HO551:=Sd.mk (Kd.V_elder' (Kd.Vz HO551.out) (Kd.R_base ho0) hb);have HO554:=Sd.mk (Kd.R_lower (Kd.R_new' (Kd.R_newM (M:=fun k_=>(w.heap.size≤k_)) (Kd.R_mono (ok':=fun k_=>True) ho0 (fun _ hk_=>trivial)) (below_size bz) (fun k_ h_=>h_)) (Kd.R_lt (Kd.Rz HO_6.out))) (below_size bz));have HO557:=Sd.mk (Kd.V_lower (Kd.V_mono (ok':=fun k_=>(P0_ k_∨w.heap.size≤k_)∧some k_≠(v553:Value).ownBlock∧some k_≠(u6:Value).ownBlock) ho1 (fun k_ hk_=>⟨Or.elim hk_.1 (fun hs_=>hs_.1) (fun hn_=>(.inr (Nat.le_trans (below_size bz) hn_))),hk_.2,Or.elim hk_.1 (fun hs_=>hs_.2) (fun hn_=>(Kd.fresh' (Kd.R_lt (Kd.Rz HO_6.out)) k_ hn_))⟩)) (below_size bz));replace HO_6:=Sd.mk (Kd.R_elder' (Kd.Rz HO_6.out) (Kd.R_base ho0) hb);replace HB:=Sd.mk (below_step bz hb);(try clear hb);(try clear hb2);(try clear hk);(try clear hi);(try clear ho0);(try clear ho1);have p565:0≤(0:Int):=(by omega);have q565:0<(x0_2.length:Int):=dz;obtain⟨ad565,e565,hx565_0⟩:=Kd.at_int (Kd.V_reads' HO_0.out).2.2 0 p565 q565;cases e565;have qi565:(0<x0_2.length)=True:=eq_true (by omega);(try rw[show ((0:Int)).toNat=0 from rfl] at hx565_0);(try rw[Addr.add_zero'] at hx565_0);replace p565:=eq_true p565;replace q565:=eq_true q565;obtain⟨Ao49,co49,eo49⟩:=Kd.R_slice HO554.out;subst eo49)|((with_reducible refine gate_builtin (b:=.append) (xs:=#[.tmp 69,.tmp 75]) rfl ?_);at_builtin;refine Kd.R_append k61 (w0:=w) w.heap.size rfl (.tmp 69) (.tmp 75) 46 61 (.agg #[(.int .i64 0),(.slice none 0 0)]) 32 rfl Try.underlying46 info61 rfl (by decide) (by omega) u6 x6_2 (⟨rd x0_2 0,t552⟩:S61) [.int .i64 (rd x0_2 0),.slice Ao49 t552.length co49] (fun k_=>(w.heap.size≤k_)) (fun k_=>((fun k_=>(w.heap.size≤k_))) k_∧some k_≠(u6:Value).ownBlock) rfl rfl ?aP (fun _ hk=>hk) ?aF ?aO ?aB ?aS ?aL ?_;(case aP=>exact k61_mkM _ _ _ (⟨rd x0_2 0,t552⟩:S61) (Kd.R_mono (HO554.out) (fun k_ hk=>⟨hk.1.1,hk.2⟩)));(case aB=>exact bz);(case aF=>exact(fun k_ hk=>(Nat.le_trans (below_size bz) hk)));(case aO=>exact(Kd.Rz <| Kd.R_mono HO_6.out (fun _ hk=>hk.1)));(case aS=>exact(below_size bz));(case aL=>have:=LMc45.out;omega);intro v567 w50 ho hb hg hat;rw[← Ny566.out] at ho;replace HO_0:=Sd.mk (Kd.V_afterv (ok:=(fun k_=>(P0_ k_∨w.heap.size≤k_)∧some k_≠(.slice Ao49 t552.length co49:Value).ownBlock)) (Kd.Vz <| Kd.V_mono HO_0.out (fun _ hk=>⟨⟨hk.1.1,hk.2⟩,hk.1.2⟩)) hg hat);replace HO551:=Sd.mk (Kd.V_afterv (ok:=(fun k_=>(P0_ k_∨w.heap.size≤k_)∧some k_≠(.slice Ao49 t552.length co49:Value).ownBlock)) (Kd.Vz <| Kd.V_mono HO551.out (fun _ hk=>⟨⟨hk.1.1,hk.2⟩,hk.1.2⟩)) hg hat);replace HO557:=Sd.mk (Kd.V_afterv (ok:=(fun k_=>(P0_ k_∨w.heap.size≤k_)∧some k_≠(.slice Ao49 t552.length co49:Value).ownBlock)) (Kd.Vz <| Kd.V_mono HO557.out (fun _ hk=>⟨⟨hk.1,hk.2.1⟩,hk.2.2⟩)) hg hat);replace HB:=Sd.mk (hb);have HO568:=Sd.mk (ho);clear HO_6 HO554;clear ho hb hg hat))
                  go_roundg kj11
                  case measure=>have:=HJ4.out;have:=HK2.out;have:=HJ11.out;omega
                  case rel=>exact⟨(t555),(y566),(wrap64 (x27_2+1)),(by first|rfl|(simp;done)|(simp[*];done)),H',⟨by have:=HJ4.out;have:=HK2.out;have:=HJ11.out;omega⟩,⟨Kd.Vz <| Kd.V_mono HO557.out (fun _ hk=>⟨hk.1.1,hk.2⟩)⟩,⟨by(with_reducible repeat (first|apply Kd.R_alloc|apply Kd.R_drewN|apply Kd.R_drew));exact HO568.out⟩,⟨bz⟩⟩
                 ·rw[if_neg c45] at H
                  exact absurd H (by simp)
                ·rw[if_neg c44] at H
                 exact absurd H (by simp)
              ·replace c22:=Bool.eq_false_iff.mpr c22
               subst c22
               have H1:(some (([]:List (S61)),([]:List Int),false))=some (r1,r2,r3):=by rw[if_neg (show ¬ (false=true) by decide)] at H;exact H
               clear H;have H:=H1;clear H1;simp only[Option.some.injEq,Prod.mk.injEq] at H;obtain⟨rfl,rfl,rfl⟩:=H;obtain⟨Ao52,co52,eo52⟩:=Kd.V_slice HO_0.out;subst eo52;have q51:(1:Int)≤((x0_2.length:Int):Int):=dz;obtain⟨i051,hi051,_,hsz51,_⟩:=info_parts info3;have hroom51:x0_2.length≤co52:=(Kd.V_reads' HO_0.out).2.1;have hC51:Kd.F (Kd.int .i64) _ _ Ao52 x0_2.length x0_2:=(Kd.V_at (base:=w.heap.size) HO_0.out).2.2;have hcut51:=cut_from (P:=Try.prog) 22 3 .i64 Try.underlying22 hi051 1 hsz51 Ao52 x0_2.length co52 1 (by omega) q51;have hr51:=Kd.F_cut (m:=(1:Int).toNat) (c:=co52) hC51 (by omega) hroom51;obtain⟨A51,hA51⟩:∃ Aq_,Aq_=(if co52=(1:Int).toNat then Ao52 else(Ao52:Option Addr).map (·.add ((1:Int).toNat*1))):=⟨_,rfl⟩;obtain⟨c51,hc51⟩:∃ cq_,cq_=co52-(1:Int).toNat:=⟨_,rfl⟩;have hy51:y547.length=x0_2.length-(1:Int).toNat:=(by rw[Ny547.out,List.length_drop]<;>omega);rw[show (x0_2).drop (1:Int).toNat=y547 from Ny547.out.symm] at hr51;replace hr51:Kd.F (Kd.int .i64) _ _ A51 y547.length y547:=(by rw[hA51];exact hr51);rw[← hy51,← hA51,← hc51] at hcut51;have HO551:=Sd.mk (show Kd.V (Kd.int .i64) 3 _ w.heap.size _ (.slice A51 y547.length c51) y547 from Kd.V_mk (by rw[hy51,hc51];exact Nat.sub_le_sub_right hroom51 _) hr51);have HC551:=Sd.mk (show y547.length≤c51 from by rw[hy51,hc51];exact Nat.sub_le_sub_right hroom51 _);clear hr51 hC51 hroom51 hi051 hsz51 hc51;have KY51:=Sd.mk hy51;have KA51:=Sd.mk hA51;clear hy51 hA51;replace q51:=eq_true q51;go_wp2_with (first|((with_reducible refine gate_callee (f:=74) rfl ?_);refine goesL_ (some 48) rfl rfl Try.func74 (by kernel_rfl) rfl #[.slice A51 y547.length c51] rfl az ?_;(with_reducible refine(ih kj11 (by have:=HJ4.out;have:=HK2.out;have:=HJ11.out;omega) (fun k_=>((P0_ k_∨w.heap.size≤k_)∧some k_≠(u6:Value).ownBlock)) _ _ y547 t552 t555 false _ ?side1 A21.out).mono ?_);(case side1=>exact HO551.out);rintro e w53 ⟨v553,v556,rfl,ho0,ho1,hb⟩;refine⟨_,rfl,?_⟩;replace HO_0:=Sd.mk (Kd.V_elder' (Kd.Vz HO_0.out) (Kd.R_base ho0) hb);replace HO551:=Sd.mk (Kd.V_elder' (Kd.Vz HO551.out) (Kd.R_base ho0) hb);have HO554:=Sd.mk (Kd.R_lower (Kd.R_new' (Kd.R_newM (M:=fun k_=>(w.heap.size≤k_)) (Kd.R_mono (ok':=fun k_=>True) ho0 (fun _ hk_=>trivial)) (below_size bz) (fun k_ h_=>h_)) (Kd.R_lt (Kd.Rz HO_6.out))) (below_size bz));have HO557:=Sd.mk (Kd.V_lower (Kd.V_mono (ok':=fun k_=>(P0_ k_∨w.heap.size≤k_)∧some k_≠(v553:Value).ownBlock∧some k_≠(u6:Value).ownBlock) ho1 (fun k_ hk_=>⟨Or.elim hk_.1 (fun hs_=>hs_.1) (fun hn_=>(.inr (Nat.le_trans (below_size bz) hn_))),hk_.2,Or.elim hk_.1 (fun hs_=>hs_.2) (fun hn_=>(Kd.fresh' (Kd.R_lt (Kd.Rz HO_6.out)) k_ hn_))⟩)) (below_size bz));replace HO_6:=Sd.mk (Kd.R_elder' (Kd.Rz HO_6.out) (Kd.R_base ho0) hb);replace HB:=Sd.mk (below_step bz hb);(try clear hb);(try clear hb2);(try clear hk);(try clear hi);(try clear ho0);(try clear ho1)));go_ret3;exact⟨_,_,by first|rfl|(simp[errW_none,errW_some]<;>rfl)|(simp[*,errW_none,errW_some]<;>rfl),by first|exact Kd.R_nil _ _ _ _ _|exact Kd.N_nil _ _ _ _ _|exact Kd.V_nil _ _ _ _ _|exact Kd.Q_nil _ _ _ _ _|exact Kd.S_nil _ _ _ _ _,Kd.V_nil _ _ _ _ _,bz⟩
             ·rw[if_neg c20] at H
              exact absurd H (by simp)
         ·rw[if_neg c11] at H
          have c11b0:decide (x27_2<(rd l0 0))=false:=decide_eq_false c11;clear c11;simp only[Option.some.injEq,Prod.mk.injEq] at H;obtain⟨rfl,rfl,rfl⟩:=H;go_wp2;go_ret3;exact⟨_,_,by first|rfl|(simp[errW_none,errW_some]<;>rfl)|(simp[*,errW_none,errW_some]<;>rfl),by(with_reducible repeat (first|apply Kd.R_alloc|apply Kd.R_drewN|apply Kd.R_drew));exact HO_6.out,by(with_reducible repeat (first|apply Kd.V_alloc|apply Kd.V_drewN|apply Kd.V_drew));exact HO_0.out,bz⟩
   ·rw[if_neg c4] at H
    exact absurd H (by simp)
  ·rw[if_neg c3] at H
   exact absurd H (by simp)
end Go.Proofs.Ytfblcanijhnhmaa.P