/- One Go function comes to what its Lean function tells. -/
import Derived.Test.YtfblcanijhnhmaaP0
import Derived.Test.YtfblcanijhnhmaaPimplcompare
namespace Go.Proofs.Ytfblcanijhnhmaa.P
open Go.RowKit YtfblcanijhnhmaaW.PrintWords YtfblcanijhnhmaaW.PrintLast YtfblcanijhnhmaaW.PrintMore
set_option linter.unusedVariables false
set_option linter.unusedSimpArgs false
/-! ### impl_add: function 47 -/
def impl_add.l0:Nat→List (S61)→List (S61)→List (S61)→Int→Int→Int→List (S61)→Option ((List (S61)))
 | 0,_,_,_,_,_,_,_=>none
 | k+1,x1,x5,x18,x19,x20,x388000,x388001=>if x20<x19 then(if 0≤x20 then(if x20<(x18.length:Int) then((impl_compare.f k ((rd_T61 x18 x20).f1) x388001).bind fun t401=>(if t401>0 then(if x5.length<4398046511104 then((some (x5++[(⟨(rd_T61 x18 x20).f0,(rd_T61 x18 x20).f1⟩:S61)]:List (S61))).bind fun y402=>(if t401=0 then(impl_add.l0 k x1 y402 x18 x19 (wrap64 (x20+1)) (wrap64 (x388000+((rd_T61 x18 x20).f0))) x388001) else(impl_add.l0 k x1 y402 x18 x19 (wrap64 (x20+1)) x388000 x388001))) else(none)) else(if t401=0 then(impl_add.l0 k x1 x5 x18 x19 (wrap64 (x20+1)) (wrap64 (x388000+((rd_T61 x18 x20).f0))) x388001) else(impl_add.l0 k x1 x5 x18 x19 (wrap64 (x20+1)) x388000 x388001)))) else(none)) else(none)) else(if x5.length<4398046511104 then((some (x5++[(⟨x388000,x388001⟩:S61)]:List (S61))).bind fun y388=>(if 1≤(x1.length:Int) then((some (x1.drop 1:List (S61))).bind fun y391=>(if y388.length+y391.length<4398046511104 then(some (y388++y391)) else(none))) else(none))) else(none))
def impl_add.f (k:Nat)(l0:List (S61))(l1:List (S61)):Option ((List (S61))):=if(l1.length:Int)=0 then(some l0) else(if 0<(l1.length:Int) then(impl_add.l0 k l1 (([]:List (S61))) l0 (l0.length:Int) 0 ((rd_T61 l1 0).f0) ((rd_T61 l1 0).f1)) else(none))
theorem impl_add.mono_l:∀ k,(∀ y0 y1 y2 y3 y4 y5 y6,LeO (impl_add.l0 k y0 y1 y2 y3 y4 y5 y6) (impl_add.l0 (k+1) y0 y1 y2 y3 y4 y5 y6))
 | 0=>fun _ _ _ _ _ _ _ r h=>by simp[impl_add.l0] at h
 | k+1=>by
  have ih0:=impl_add.mono_l k
  ·intro y0 y1 y2 y3 y4 y5 y6
   unfold impl_add.l0
   repeat' first|(with_reducible first|exact ih0 _ _ _ _ _ _ _|exact impl_compare.mono _ _ _|exact LeO.refl _|exact LeO.none _|refine LeO.ite ?_ ?_|refine LeO.bind ?_ (fun _=>?_))|exact ih0 _ _ _ _ _ _ _|exact impl_compare.mono _ _ _|exact LeO.none _|refine LeO.ite ?_ ?_|refine LeO.bind ?_ (fun _=>?_)
theorem impl_add.mono:∀ a0 a1 k,LeO (impl_add.f k a0 a1) (impl_add.f (k+1) a0 a1):=by
 intro a0 a1 k
 have ih0:=impl_add.mono_l k
 unfold impl_add.f
 repeat' first|(with_reducible first|exact ih0 _ _ _ _ _ _ _|exact LeO.refl _|exact LeO.none _|refine LeO.ite ?_ ?_|refine LeO.bind ?_ (fun _=>?_))|exact ih0 _ _ _ _ _ _ _|exact LeO.none _|refine LeO.ite ?_ ?_|refine LeO.bind ?_ (fun _=>?_)
def impl_add.T14:Bool × List (List Nat × List Nat):=(true,[([],[]),([],[]),([1],[1]),([0,2],[0,2]),([],[]),([4],[4]),([3,5,3],[3,5]),([6,6,0,1,2,3,4,5,6],[6])])
def impl_add.B14:List Nat:=[0,0,2,7,0,16,63,127]
theorem impl_add.tab14:rtab .any (opsOf Try.f47 14)=impl_add.T14:=by kernel_rfl
theorem impl_add.bits14:waitsOk impl_add.T14.2 impl_add.B14=true:=by kernel_rfl
set_option maxHeartbeats 8000000 in
set_option maxRecDepth 100000 in
theorem impl_add.calls (k:Nat)(P0_:Nat→Prop)(A0:Option Addr)(c0:Nat)(l0:List (S61))(P1_:Nat→Prop)(A1:Option Addr)(c1:Nat)(l1:List (S61))(r:List (S61))(w:World)(hs0:Kd.V k61 61 w w.heap.size (fun k_=>P0_ k_) (.slice A0 l0.length c0) l0)(hs1:Kd.V k61 61 w w.heap.size (fun k_=>P1_ k_) (.slice A1 l1.length c1) l1)(h:impl_add.f k l0 l1=some r) :
  Calls Try.prog 47 #[.slice A0 l0.length c0,.slice A1 l1.length c1] w fun e w'=>∃ v0_:Value,e=.returned (v0_)∧Kd.V k61 61 w' w.heap.size (fun k_=>((P0_ k_∨P1_ k_)∨w.heap.size≤k_)) v0_ r∧Below w.heap.size w w':=by
 have hu61:=Try.underlying61
 have HO0:=Sd.mk (show Kd.V k61 61 w w.heap.size (fun k_=>((P0_ k_∨P1_ k_)∨w.heap.size≤k_)) (.slice A0 l0.length c0) l0 from Kd.V_mono hs0 (fun k_ hk=>.inl (.inl hk)))
 have HO1:=Sd.mk (show Kd.V k61 61 w w.heap.size (fun k_=>((P0_ k_∨P1_ k_)∨w.heap.size≤k_)) (.slice A1 l1.length c1) l1 from Kd.V_mono hs1 (fun k_ hk=>.inl (.inr hk)))
 have HB:=Sd.mk (Below.refl w.heap.size w)
 have H:(if(l1.length:Int)=0 then(some l0) else(if 0<(l1.length:Int) then(impl_add.l0 k l1 (([]:List (S61))) l0 (l0.length:Int) 0 ((rd_T61 l1 0).f0) ((rd_T61 l1 0).f1)) else(none)))=some r:=h
 clear h
 by_cases c3:(l1.length:Int)=0
 ·rw[if_pos c3] at H
  have c3b0:((l1.length:Int) == 0)=true:=beq_iff_eq.mpr c3
  have c3b1:((l1.length:Int) != 0)=false:=bne_eq_false_iff_eq.mpr c3
  clear c3
  obtain rfl:=Option.some.inj H
  go_enter Try.func47,Try.ntmps47
  go_wp2
  go_ret
  exact⟨_,by first|rfl|(simp[errW_none,errW_some]<;>rfl)|(simp[*,errW_none,errW_some]<;>rfl),by(with_reducible repeat (first|apply Kd.V_alloc|apply Kd.V_drewN|apply Kd.V_drew));exact HO0.out,bz⟩
 ·rw[if_neg c3] at H
  have c3b0:((l1.length:Int) == 0)=false:=beq_eq_false_iff_ne.mpr c3
  have c3b1:((l1.length:Int) != 0)=true:=bne_iff_ne.mpr c3
  have c3b2:¬ (l1=[]):=fun h_=>c3 (by rw[h_];rfl)
  obtain⟨y383,hy383⟩:∃ y_:List (S61),y_=(([]:List (S61))):=⟨_,rfl⟩
  replace H:(if 0<(l1.length:Int) then(impl_add.l0 k l1 y383 l0 (l0.length:Int) 0 ((rd_T61 l1 0).f0) ((rd_T61 l1 0).f1)) else(none))=some r:=hz hy383 H
  have Ny383:=Sd.mk hy383
  clear hy383
  by_cases c4:0<(l1.length:Int)
  ·rw[if_pos c4] at H
   have c4b0:decide (0<(l1.length:Int))=true:=decide_eq_true c4
   have c4b1:decide (0<l1.length)=true:=decide_eq_true (by omega)
   clear c4
   have H':=Sd.mk H
   clear H
   go_enter Try.func47,Try.ntmps47
   go_wp2_with (first|((with_reducible refine gate_dst (N:=14) rfl ?_);refine Kd.N_lit k61 _ 61 ?hg (N':=14) ?hd (xs:=([]:List (S61))) (inner:=[]) (ok:=(fun k_=>((P0_ k_∨P1_ k_)∨w.heap.size≤k_))) (okp:=(fun k_=>((P0_ k_∨P1_ k_)∨w.heap.size≤k_))) ?hr ?hp (fun _ hk=>hk) ((show ∀ k_,w.heap.size≤k_→(fun k_=>((P0_ k_∨P1_ k_)∨w.heap.size≤k_)) k_ from fun k_ hk=>(.inr (Nat.le_trans (below_size bz) hk))) _ (Nat.le_refl _)) (Below.refl _ _) (Nat.le_refl _) (by simp) ?_;(case hd=>rfl);(case hg=>rfl);(case hr=>first|(go_simp;done)|(go_simp;rfl));(case hp=>exact(Reps.none _ _));intro v384 w5 ho6 hb hg_ hnew_;clear hg_ hnew_;(first|rw[← Ny383.out] at ho6|(simp only[Int.reduceToNat] at ho6;rw[← Ny383.out] at ho6));replace HO0:=Sd.mk (Kd.V_elder' (Kd.Vz HO0.out) (Kd.N_base ho6) hb);replace HO1:=Sd.mk (Kd.V_elder' (Kd.Vz HO1.out) (Kd.N_base ho6) hb);have HO385:=Sd.mk (Kd.N_lower ho6 (below_size bz));replace HB:=Sd.mk (below_step bz hb);clear hb ho6;have p386:0≤(0:Int):=(by omega);have q386:0<(l1.length:Int):=dz;obtain⟨ad386,A386_1,c386_1,e386,hx386_0,hx386_1,hl386_1,hi386_1⟩:=at_T61 (Kd.V_reads' HO1.out).2.2 0 p386 q386;cases e386;obtain⟨ce386,hce386,hMe386,hcc386⟩:=Kd.V_get HO1.out z61 0 p386 (by first|exact q386|exact dz|(have e_:=(Kd.V_reads' HO1.out).1;omega));obtain⟨ua386_1,uc386_1,rfl,ul386_1,ge386_1⟩:=k61_openF hMe386;have hv386_1:=hcc386 1 _ rfl;rw[add_field _ _ 1 (by omega)] at hv386_1;replace hv386_1:=Option.some.inj (hv386_1.symm.trans hx386_1);injection hv386_1 with hva_ hvn_ hvc_;rw[hva_] at ge386_1;rw[hvc_] at ul386_1;have HL386_1:=Sd.mk (show Kd.V k61 61 _ w.heap.size _ _ ((rd_T61 l1 0).f1) from Kd.V_mk ul386_1 ge386_1);clear hva_ hvn_ hvc_ ge386_1 ul386_1;clear hcc386 hce386;have qi386:(0<l1.length)=True:=eq_true (by omega);(try rw[show ((0:Int)).toNat=0 from rfl] at hx386_0);(try rw[show 0*2=0 from rfl] at hx386_0);(try rw[Addr.add_zero'] at hx386_0);(try rw[show ((0:Int)).toNat=0 from rfl] at hx386_1);(try rw[show 0*2=0 from rfl] at hx386_1);(try rw[Addr.add_zero'] at hx386_1);have HR386_1:=Sd.mk hi386_1;have HC386_1:=Sd.mk hl386_1;clear hi386_1 hl386_1;replace p386:=eq_true p386;replace q386:=eq_true q386)|((with_reducible refine gate_dst (N:=6) rfl ?_);refine box_event ?hg (N:=6) ?hd (cs:=#[.int .i64 0,.slice none 0 0]) (t:=61) ?hr ?_;(case hd=>rfl);(case hg=>rfl);(case hr=>first|(go_simp;done)|(go_simp;rfl));intro gb387 hg w7 hbox hb;replace HO0:=Sd.mk (Kd.V_below (Kd.V_elderB (Kd.Vz HO0.out) gb387 (Nat.le_of_eq hg.symm)) hb);replace HO1:=Sd.mk (Kd.V_below (Kd.V_elderB (Kd.Vz HO1.out) gb387 (Nat.le_of_eq hg.symm)) hb);replace HO385:=Sd.mk (Kd.N_below (Kd.N_elderB (Kd.Nz HO385.out) gb387 (Nat.le_of_eq hg.symm)) hb);replace HL386_1:=Sd.mk (Kd.V_below (Kd.V_elderB (Kd.Vz HL386_1.out) gb387 (Nat.le_of_eq hg.symm)) hb);replace HR386_1:=Sd.mk (Kd.C_below (Kd.Cz HR386_1.out) hb);have BK387:=Sd.mk (hbox);have GW387:=Sd.mk ((by rw[hg];exact(below_size bz):w.heap.size≤gb387));have GE387:=Sd.mk ((by rw[hg];exact(below_size bz):w.heap.size≤gb387));replace HB:=Sd.mk (below_step bz hb);clear hb hbox hg;have hcz8_0:w7.cell? ⟨gb387,0,none⟩=some (.int .i64 0):=(blk_cell BK387.out 0).trans rfl;have hcz8_1:w7.cell? ⟨gb387,1,none⟩=some (.slice none 0 0):=(blk_cell BK387.out 1).trans rfl;have hfz8_0:=blk_frozen BK387.out 0;have hfz8_1:=blk_frozen BK387.out 1))
   go_loopg [5,20] k (fun kq v5 v20 w'=>∃ (x5_1:List (S61)) (x20_1:Int) (x388000_1:Int),v20=.int .i64 x20_1∧Sd (impl_add.l0 kq l1 x5_1 l0 (l0.length:Int) x20_1 x388000_1 ((rd_T61 l1 0).f1)=some r)∧Sd (kq≤k)∧Sd (Kd.V k61 61 w' w.heap.size (fun k_=>((P0_ k_∨P1_ k_)∨w.heap.size≤k_)∧some k_≠(v5:Value).ownBlock∧k_≠gb387) (.slice (some ad386) l1.length c1) l1)∧Sd (Kd.N k61 61 w' w.heap.size (fun k_=>((P0_ k_∨P1_ k_)∨w.heap.size≤k_)∧k_≠gb387) v5 x5_1)∧Sd (Kd.V k61 61 w' w.heap.size (fun k_=>((P0_ k_∨P1_ k_)∨w.heap.size≤k_)∧some k_≠(v5:Value).ownBlock∧k_≠gb387) (.slice A0 l0.length c0) l0)∧Sd (Kd.V k61 61 w' w.heap.size (fun k_=>((P0_ k_∨P1_ k_)∨w.heap.size≤k_)∧some k_≠(v5:Value).ownBlock∧k_≠gb387) (.slice A386_1 ((rd_T61 l1 0).f1).length c386_1) ((rd_T61 l1 0).f1))∧Sd (w'.heap[gb387]?=some (.cells #[.int .i64 x388000_1,(.slice A386_1 ((rd_T61 l1 0).f1).length c386_1)] 61 (0,0)))∧Sd (Below w.heap.size w w'))
   case atStart=>exact⟨(y383),(0),((rd_T61 l1 0).f0),(by first|rfl|(simp;done)|(simp[*];done)),H',⟨Nat.le_refl _⟩,⟨Kd.Vz <| Kd.V_mono (Kd.V_far (p:=⟨gb387,1,none⟩) (Kd.V_far (p:=⟨gb387,0,none⟩) (Kd.V_mono HO1.out (fun k_ hk=>(⟨hk,hk.2⟩:_∧k_≠gb387))) (fun _ hk=>hk.2) (.int .i64 ((rd_T61 l1 0).f0))) (fun _ hk=>hk.2) (.slice A386_1 ((rd_T61 l1 0).f1).length c386_1)) (fun _ hk=>⟨hk.1.1.1,⟨hk.1.1.2,hk.1.2⟩⟩)⟩,⟨Kd.Nz <| Kd.N_mono (Kd.N_far (p:=⟨gb387,1,none⟩) (Kd.N_far (p:=⟨gb387,0,none⟩) (Kd.N_mono HO385.out (fun k_ hk=>(⟨hk,hk.2⟩:_∧k_≠gb387))) (fun _ hk=>hk.2) (.int .i64 ((rd_T61 l1 0).f0))) (fun _ hk=>hk.2) (.slice A386_1 ((rd_T61 l1 0).f1).length c386_1)) (fun _ hk=>⟨hk.1.1,hk.1.2⟩)⟩,⟨Kd.Vz <| Kd.V_mono (Kd.V_far (p:=⟨gb387,1,none⟩) (Kd.V_far (p:=⟨gb387,0,none⟩) (Kd.V_mono HO0.out (fun k_ hk=>(⟨hk,hk.2⟩:_∧k_≠gb387))) (fun _ hk=>hk.2) (.int .i64 ((rd_T61 l1 0).f0))) (fun _ hk=>hk.2) (.slice A386_1 ((rd_T61 l1 0).f1).length c386_1)) (fun _ hk=>⟨hk.1.1.1,⟨hk.1.1.2,hk.1.2⟩⟩)⟩,⟨Kd.Vz <| Kd.V_mono (Kd.V_far (p:=⟨gb387,1,none⟩) (Kd.V_far (p:=⟨gb387,0,none⟩) (Kd.V_mono HL386_1.out (fun k_ hk=>(⟨hk,hk.2⟩:_∧k_≠gb387))) (fun _ hk=>hk.2) (.int .i64 ((rd_T61 l1 0).f0))) (fun _ hk=>hk.2) (.slice A386_1 ((rd_T61 l1 0).f1).length c386_1)) (fun _ hk=>⟨hk.1.1.1,⟨hk.1.1.2,hk.1.2⟩⟩)⟩,⟨by(with_reducible repeat (first|refine blk_drewN ?_ _|refine blk_drew ?_|refine blk_alloc ?_ _));refine blk_put (cs:=#[.int .i64 ((rd_T61 l1 0).f0),.slice none 0 0]) ?_ 1 _ rfl;(with_reducible repeat (first|refine blk_drewN ?_ _|refine blk_drew ?_|refine blk_alloc ?_ _));refine blk_put (cs:=#[.int .i64 0,.slice none 0 0]) ?_ 0 _ rfl;(with_reducible repeat (first|refine blk_drewN ?_ _|refine blk_drew ?_|refine blk_alloc ?_ _));exact BK387.out⟩,⟨by repeat (first|(with_reducible first|exact HB.out|apply below_alloc|apply pw_below_drewN|apply below_drew1|refine below_set ?_ GE387.out)|exact HB.out)⟩⟩
   case round =>
    clear H'
    try clear c1
    try clear p2
    try clear c3
    try clear c3b0
    try clear c3b1
    try clear c3b2
    try clear p3
    try clear q3
    try clear hx3
    try clear qi3
    try clear c4
    try clear c4b0
    try clear c4b1
    try clear hcz8_0
    try clear hcz8_1
    try clear hfz8_0
    try clear hfz8_1
    try clear hx386_0
    try clear hx386_1
    try clear p386
    try clear q386
    obtain⟨x5_1,x20_1,x388000_1,rfl,HA,HK1,HO_1,HO_5,HO_18,HO_388001,BK387,HB⟩:=hrel
    cases gk with
    | zero=>exact absurd HA.out (by simp[impl_add.l0])
    | succ k1 =>
     have H:=HA.out
     clear HA
     simp only[impl_add.l0] at H
     by_cases c9:x20_1<(l0.length:Int)
     ·rw[if_pos c9] at H
      have c9b0:decide (x20_1<(l0.length:Int))=true:=decide_eq_true c9
      clear c9
      by_cases c10:0≤x20_1
      ·rw[if_pos c10] at H
       have c10b0:decide (0≤x20_1)=true:=decide_eq_true c10
       clear c10
       by_cases c11:x20_1<(l0.length:Int)
       ·rw[if_pos c11] at H
        have c11b0:decide (x20_1<(l0.length:Int))=true:=decide_eq_true c11
        clear c11
        replace H:=Option.bind_eq_some_iff.mp H
        obtain⟨t401,A120,H⟩:=H
        replace H:(if t401>0 then(if x5_1.length<4398046511104 then((some (x5_1++[(⟨(rd_T61 l0 x20_1).f0,(rd_T61 l0 x20_1).f1⟩:S61)]:List (S61))).bind fun y402=>(if t401=0 then(impl_add.l0 k1 l1 y402 l0 (l0.length:Int) (wrap64 (x20_1+1)) (wrap64 (x388000_1+((rd_T61 l0 x20_1).f0))) ((rd_T61 l1 0).f1)) else(impl_add.l0 k1 l1 y402 l0 (l0.length:Int) (wrap64 (x20_1+1)) x388000_1 ((rd_T61 l1 0).f1)))) else(none)) else(if t401=0 then(impl_add.l0 k1 l1 x5_1 l0 (l0.length:Int) (wrap64 (x20_1+1)) (wrap64 (x388000_1+((rd_T61 l0 x20_1).f0))) ((rd_T61 l1 0).f1)) else(impl_add.l0 k1 l1 x5_1 l0 (l0.length:Int) (wrap64 (x20_1+1)) x388000_1 ((rd_T61 l1 0).f1))))=some r:=H
        have A12:=Sd.mk A120
        clear A120
        by_cases c13:t401>0
        ·rw[if_pos c13] at H
         have c13b0:decide (0<t401)=true:=decide_eq_true c13
         clear c13
         by_cases c14:x5_1.length<4398046511104
         ·rw[if_pos c14] at H
          have LMc14:=Sd.mk c14
          clear c14
          obtain⟨y402,hy402⟩:∃ y_:List (S61),y_=(x5_1++[(⟨(rd_T61 l0 x20_1).f0,(rd_T61 l0 x20_1).f1⟩:S61)]):=⟨_,rfl⟩
          replace H:(if t401=0 then(impl_add.l0 k1 l1 y402 l0 (l0.length:Int) (wrap64 (x20_1+1)) (wrap64 (x388000_1+((rd_T61 l0 x20_1).f0))) ((rd_T61 l1 0).f1)) else(impl_add.l0 k1 l1 y402 l0 (l0.length:Int) (wrap64 (x20_1+1)) x388000_1 ((rd_T61 l1 0).f1)))=some r:=hz hy402 H
          have Ny402:=Sd.mk hy402
          clear hy402
          by_cases c15:t401=0
          ·rw[if_pos c15] at H
           have c15b0:(t401 == 0)=true:=beq_iff_eq.mpr c15
           have c15b1:(t401 != 0)=false:=bne_eq_false_iff_eq.mpr c15
           clear c15
           have H':=Sd.mk H
           clear H
           have p399:0≤(x20_1:Int):=dz
           have q399:x20_1<(l0.length:Int):=dz
           obtain⟨ad399,A399_1,c399_1,e399,hx399_0,hx399_1,hl399_1,hi399_1⟩:=at_T61 (Kd.V_reads' HO_18.out).2.2 x20_1 p399 q399
           cases e399
           obtain⟨ce399,hce399,hMe399,hcc399⟩:=Kd.V_get HO_18.out z61 x20_1 p399 (by first|exact q399|exact dz|(have e_:=(Kd.V_reads' HO_18.out).1;omega))
           obtain⟨ua399_1,uc399_1,rfl,ul399_1,ge399_1⟩:=k61_openF hMe399
           have hv399_1:=hcc399 1 _ rfl
           rw[add_field _ _ 1 (by omega)] at hv399_1
           replace hv399_1:=Option.some.inj (hv399_1.symm.trans hx399_1)
           injection hv399_1 with hva_ hvn_ hvc_
           rw[hva_] at ge399_1
           rw[hvc_] at ul399_1
           have HL399_1:=Sd.mk (show Kd.V k61 61 _ w.heap.size _ _ ((rd_T61 l0 x20_1).f1) from Kd.V_mk ul399_1 ge399_1)
           clear hva_ hvn_ hvc_ ge399_1 ul399_1
           clear hcc399 hce399
           have HR399_1:=Sd.mk hi399_1
           have HC399_1:=Sd.mk hl399_1
           clear hi399_1 hl399_1
           replace p399:=eq_true p399
           replace q399:=eq_true q399
           go_wp2_with (first|((with_reducible refine gate_dst (N:=8) rfl ?_);refine box_event ?hg (N:=8) ?hd (cs:=#[.int .i64 0,.slice none 0 0]) (t:=61) ?hr ?_;(case hd=>rfl);(case hg=>rfl);(case hr=>first|(go_simp;done)|(go_simp;rfl));intro gb400 hg w16 hbox hb;replace HO_1:=Sd.mk (Kd.V_below (Kd.V_elderB (Kd.Vz HO_1.out) gb400 (Nat.le_of_eq hg.symm)) hb);replace HO_5:=Sd.mk (Kd.N_below (Kd.N_elderB (Kd.Nz HO_5.out) gb400 (Nat.le_of_eq hg.symm)) hb);replace HO_18:=Sd.mk (Kd.V_below (Kd.V_elderB (Kd.Vz HO_18.out) gb400 (Nat.le_of_eq hg.symm)) hb);replace HO_388001:=Sd.mk (Kd.V_below (Kd.V_elderB (Kd.Vz HO_388001.out) gb400 (Nat.le_of_eq hg.symm)) hb);replace HL399_1:=Sd.mk (Kd.V_below (Kd.V_elderB (Kd.Vz HL399_1.out) gb400 (Nat.le_of_eq hg.symm)) hb);replace HR399_1:=Sd.mk (Kd.C_below (Kd.Cz HR399_1.out) hb);have BK400:=Sd.mk (hbox);have GW400:=Sd.mk ((by rw[hg];exact(below_size (by repeat (first|(with_reducible first|exact HB.out|apply below_alloc|apply pw_below_drewN|apply below_drew1|refine below_set ?_ GE387.out)|exact HB.out))):w.heap.size≤gb400));have GE400:=Sd.mk ((by rw[hg];exact(below_size (by repeat (first|(with_reducible first|exact HB.out|apply below_alloc|apply pw_below_drewN|apply below_drew1|refine below_set ?_ GE387.out)|exact HB.out))):w.heap.size≤gb400));replace HB:=Sd.mk (below_step (by repeat (first|(with_reducible first|exact HB.out|apply below_alloc|apply pw_below_drewN|apply below_drew1|refine below_set ?_ GE387.out)|exact HB.out)) hb);have NB387_400:=Sd.mk ((by rw[hg];exact Nat.ne_of_lt (blk_lt (g:=gb387) (o:=.cells #[.int .i64 x388000_1,.slice A386_1 ((rd_T61 l1 0).f1).length c386_1] 61 (0,0)) (by(with_reducible repeat (first|refine blk_drewN ?_ _|refine blk_drew ?_|refine blk_alloc ?_ _));exact BK387.out)):gb387≠gb400));have NB400_387:=Sd.mk ((by rw[hg];exact Nat.ne_of_gt (blk_lt (g:=gb387) (o:=.cells #[.int .i64 x388000_1,.slice A386_1 ((rd_T61 l1 0).f1).length c386_1] 61 (0,0)) (by(with_reducible repeat (first|refine blk_drewN ?_ _|refine blk_drew ?_|refine blk_alloc ?_ _));exact BK387.out)):gb400≠gb387));replace BK387:=Sd.mk (blk_below (g:=gb387) (o:=.cells #[.int .i64 x388000_1,.slice A386_1 ((rd_T61 l1 0).f1).length c386_1] 61 (0,0)) (by(with_reducible repeat (first|refine blk_drewN ?_ _|refine blk_drew ?_|refine blk_alloc ?_ _));exact BK387.out) hb);clear hb hbox hg;have hnb17:=NB400_387.out;have hnc17:=NB387_400.out;have hcz18_0:w16.cell? ⟨gb400,0,none⟩=some (.int .i64 0):=(blk_cell BK400.out 0).trans rfl;have hcz18_1:w16.cell? ⟨gb400,1,none⟩=some (.slice none 0 0):=(blk_cell BK400.out 1).trans rfl;have hfz18_0:=blk_frozen BK400.out 0;have hfz18_1:=blk_frozen BK400.out 1;have hcz19_0:w16.cell? ⟨gb387,0,none⟩=some (.int .i64 x388000_1):=(blk_cell BK387.out 0).trans rfl;have hcz19_1:w16.cell? ⟨gb387,1,none⟩=some (.slice A386_1 ((rd_T61 l1 0).f1).length c386_1):=(blk_cell BK387.out 1).trans rfl;have hfz19_0:=blk_frozen BK387.out 0;have hfz19_1:=blk_frozen BK387.out 1)|((with_reducible refine gate_callee (f:=50) rfl ?_);refine goesL_ (some 28) rfl rfl Try.func50 (by kernel_rfl) rfl #[.slice A399_1 ((rd_T61 l0 x20_1).f1).length c399_1,.slice A386_1 ((rd_T61 l1 0).f1).length c386_1] rfl az ?_;(with_reducible refine(impl_compare.calls k1 _ _ ((rd_T61 l0 x20_1).f1) _ _ ((rd_T61 l1 0).f1) t401 _ ?side1 ?side2 ?side3 ?side4 A12.out).mono ?_);(case side1=>repeat (first|exact((Kd.V_reads' (by(with_reducible repeat (first|apply Kd.V_alloc|apply Kd.V_drewN|apply Kd.V_drew));exact(Kd.V_mono (Kd.V_far (p:=⟨gb400,1,none⟩) (Kd.V_far (p:=⟨gb400,0,none⟩) (Kd.V_mono HL399_1.out (fun k_ hk=>(⟨hk,hk.2⟩:_∧k_≠gb400))) (fun _ hk=>hk.2) (.int .i64 ((rd_T61 l0 x20_1).f0))) (fun _ hk=>hk.2) (.slice A399_1 ((rd_T61 l0 x20_1).f1).length c399_1)) (fun _ h_=>h_.1)))).2.2)|(with_reducible refine Kd.C_alloc ?_ _)|(with_reducible refine Kd.C_drewN ?_ _)|(with_reducible refine Kd.C_drew ?_)));(case side2=>exact HC399_1.out);(case side3=>refine(Kd.V_reads' (e:=61) (base:=w.heap.size) (ok:=fun k_=>(((((P0_ k_∨P1_ k_)∨w.heap.size≤k_))∧(some k_≠(u5:Value).ownBlock∧k_≠gb387))∧k_≠gb400)) (n:=((rd_T61 l1 0).f1).length) (c:=c386_1) ?_).2.2;exact(by(with_reducible repeat (first|apply Kd.V_alloc|apply Kd.V_drewN|apply Kd.V_drew));exact(Kd.V_mono (Kd.V_far (p:=⟨gb400,1,none⟩) (Kd.V_far (p:=⟨gb400,0,none⟩) (Kd.V_mono HO_388001.out (fun k_ hk=>(⟨hk,hk.2⟩:_∧k_≠gb400))) (fun _ hk=>hk.2) (.int .i64 ((rd_T61 l0 x20_1).f0))) (fun _ hk=>hk.2) (.slice A399_1 ((rd_T61 l0 x20_1).f1).length c399_1)) (fun _ h_=>h_.1))));(case side4=>exact(Kd.V_reads' HO_388001.out).2.1);rintro e w20 ⟨rfl,hb⟩;refine⟨_,rfl,?_⟩;replace HO_1:=Sd.mk (Kd.V_below (by(with_reducible repeat (first|apply Kd.V_alloc|apply Kd.V_drewN|apply Kd.V_drew));exact(Kd.V_mono (Kd.V_far (p:=⟨gb400,1,none⟩) (Kd.V_far (p:=⟨gb400,0,none⟩) (Kd.V_mono HO_1.out (fun k_ hk=>(⟨hk,hk.2⟩:_∧k_≠gb400))) (fun _ hk=>hk.2) (.int .i64 ((rd_T61 l0 x20_1).f0))) (fun _ hk=>hk.2) (.slice A399_1 ((rd_T61 l0 x20_1).f1).length c399_1)) (fun _ h_=>h_.1))) hb);replace HO_5:=Sd.mk (Kd.N_below (by(with_reducible repeat (first|apply Kd.N_alloc|apply Kd.N_drewN|apply Kd.N_drew));exact(Kd.N_mono (Kd.N_far (p:=⟨gb400,1,none⟩) (Kd.N_far (p:=⟨gb400,0,none⟩) (Kd.N_mono HO_5.out (fun k_ hk=>(⟨hk,hk.2⟩:_∧k_≠gb400))) (fun _ hk=>hk.2) (.int .i64 ((rd_T61 l0 x20_1).f0))) (fun _ hk=>hk.2) (.slice A399_1 ((rd_T61 l0 x20_1).f1).length c399_1)) (fun _ h_=>h_.1))) hb);replace HO_18:=Sd.mk (Kd.V_below (by(with_reducible repeat (first|apply Kd.V_alloc|apply Kd.V_drewN|apply Kd.V_drew));exact(Kd.V_mono (Kd.V_far (p:=⟨gb400,1,none⟩) (Kd.V_far (p:=⟨gb400,0,none⟩) (Kd.V_mono HO_18.out (fun k_ hk=>(⟨hk,hk.2⟩:_∧k_≠gb400))) (fun _ hk=>hk.2) (.int .i64 ((rd_T61 l0 x20_1).f0))) (fun _ hk=>hk.2) (.slice A399_1 ((rd_T61 l0 x20_1).f1).length c399_1)) (fun _ h_=>h_.1))) hb);replace HO_388001:=Sd.mk (Kd.V_below (by(with_reducible repeat (first|apply Kd.V_alloc|apply Kd.V_drewN|apply Kd.V_drew));exact(Kd.V_mono (Kd.V_far (p:=⟨gb400,1,none⟩) (Kd.V_far (p:=⟨gb400,0,none⟩) (Kd.V_mono HO_388001.out (fun k_ hk=>(⟨hk,hk.2⟩:_∧k_≠gb400))) (fun _ hk=>hk.2) (.int .i64 ((rd_T61 l0 x20_1).f0))) (fun _ hk=>hk.2) (.slice A399_1 ((rd_T61 l0 x20_1).f1).length c399_1)) (fun _ h_=>h_.1))) hb);replace BK387:=Sd.mk (blk_below (g:=gb387) (o:=.cells #[.int .i64 x388000_1,.slice A386_1 ((rd_T61 l1 0).f1).length c386_1] 61 (0,0)) (by(with_reducible repeat (first|refine blk_drewN ?_ _|refine blk_drew ?_|refine blk_alloc ?_ _));refine blk_far ?_ NB387_400.out _;(with_reducible repeat (first|refine blk_drewN ?_ _|refine blk_drew ?_|refine blk_alloc ?_ _));refine blk_far ?_ NB387_400.out _;(with_reducible repeat (first|refine blk_drewN ?_ _|refine blk_drew ?_|refine blk_alloc ?_ _));exact BK387.out) hb);replace HR399_1:=Sd.mk (Kd.C_below ((Kd.V_reads' (by(with_reducible repeat (first|apply Kd.V_alloc|apply Kd.V_drewN|apply Kd.V_drew));exact(Kd.V_mono (Kd.V_far (p:=⟨gb400,1,none⟩) (Kd.V_far (p:=⟨gb400,0,none⟩) (Kd.V_mono HL399_1.out (fun k_ hk=>(⟨hk,hk.2⟩:_∧k_≠gb400))) (fun _ hk=>hk.2) (.int .i64 ((rd_T61 l0 x20_1).f0))) (fun _ hk=>hk.2) (.slice A399_1 ((rd_T61 l0 x20_1).f1).length c399_1)) (fun _ h_=>h_.1)))).2.2) hb);replace HL399_1:=Sd.mk (Kd.V_below (by(with_reducible repeat (first|apply Kd.V_alloc|apply Kd.V_drewN|apply Kd.V_drew));exact(Kd.V_mono (Kd.V_far (p:=⟨gb400,1,none⟩) (Kd.V_far (p:=⟨gb400,0,none⟩) (Kd.V_mono HL399_1.out (fun k_ hk=>(⟨hk,hk.2⟩:_∧k_≠gb400))) (fun _ hk=>hk.2) (.int .i64 ((rd_T61 l0 x20_1).f0))) (fun _ hk=>hk.2) (.slice A399_1 ((rd_T61 l0 x20_1).f1).length c399_1)) (fun _ h_=>h_.1))) hb);replace BK400:=Sd.mk (blk_below (g:=gb400) (o:=.cells #[.int .i64 ((rd_T61 l0 x20_1).f0),.slice A399_1 ((rd_T61 l0 x20_1).f1).length c399_1] 61 (0,0)) (by(with_reducible repeat (first|refine blk_drewN ?_ _|refine blk_drew ?_|refine blk_alloc ?_ _));refine blk_put (cs:=#[.int .i64 ((rd_T61 l0 x20_1).f0),.slice none 0 0]) ?_ 1 _ rfl;(with_reducible repeat (first|refine blk_drewN ?_ _|refine blk_drew ?_|refine blk_alloc ?_ _));refine blk_put (cs:=#[.int .i64 0,.slice none 0 0]) ?_ 0 _ rfl;(with_reducible repeat (first|refine blk_drewN ?_ _|refine blk_drew ?_|refine blk_alloc ?_ _));exact BK400.out) hb);replace HB:=Sd.mk (below_step (by repeat (first|(with_reducible first|exact HB.out|apply below_alloc|apply pw_below_drewN|apply below_drew1|refine below_set ?_ GE387.out|refine below_set ?_ GE400.out)|exact HB.out)) hb);(try clear hb);(try clear hb2);(try clear hk);(try clear hi);have hcz21_0:w20.cell? ⟨gb400,0,none⟩=some (.int .i64 ((rd_T61 l0 x20_1).f0)):=(blk_cell BK400.out 0).trans rfl;have hcz21_1:w20.cell? ⟨gb400,1,none⟩=some (.slice A399_1 ((rd_T61 l0 x20_1).f1).length c399_1):=(blk_cell BK400.out 1).trans rfl;have hfz21_0:=blk_frozen BK400.out 0;have hfz21_1:=blk_frozen BK400.out 1)|((with_reducible refine gate_builtin (b:=.append) (xs:=#[.tmp 31,.tmp 33]) rfl ?_);at_builtin;refine Kd.N_append k61 (w0:=w) w.heap.size rfl (.tmp 31) (.tmp 33) 46 61 (.agg #[(.int .i64 0),(.slice none 0 0)]) 32 rfl Try.underlying46 info61 rfl (by decide) (by omega) u5 x5_1 (⟨(rd_T61 l0 x20_1).f0,(rd_T61 l0 x20_1).f1⟩:S61) [.int .i64 ((rd_T61 l0 x20_1).f0),.slice A399_1 ((rd_T61 l0 x20_1).f1).length c399_1] (fun k_=>((P0_ k_∨P1_ k_)∨w.heap.size≤k_)∧k_≠gb387∧k_≠gb400) (fun k_=>((fun k_=>((P0_ k_∨P1_ k_)∨w.heap.size≤k_)∧k_≠gb387∧k_≠gb400)) k_∧some k_≠(u5:Value).ownBlock) rfl rfl ?aP (fun _ hk=>hk) ?aF ?aO ?aB ?aS ?aL ?_;(case aP=>exact(k61_mkF _ _ (⟨(rd_T61 l0 x20_1).f0,(rd_T61 l0 x20_1).f1⟩:S61) (Kd.V_reads' (Kd.V_mono (ok':=(fun k_=>((fun k_=>((P0_ k_∨P1_ k_)∨w.heap.size≤k_)∧k_≠gb387∧k_≠gb400)) k_∧some k_≠(u5:Value).ownBlock)) (HL399_1.out) (fun k_ hk=>⟨⟨hk.1.1,⟨hk.1.2.2,hk.2⟩⟩,hk.1.2.1⟩))).2.1 (Kd.V_F (Kd.V_mono (ok':=(fun k_=>((fun k_=>((P0_ k_∨P1_ k_)∨w.heap.size≤k_)∧k_≠gb387∧k_≠gb400)) k_∧some k_≠(u5:Value).ownBlock)) (HL399_1.out) (fun k_ hk=>⟨⟨hk.1.1,⟨hk.1.2.2,hk.2⟩⟩,hk.1.2.1⟩)))));(case aB=>exact(by repeat (first|(with_reducible first|exact HB.out|apply below_alloc|apply pw_below_drewN|apply below_drew1|refine below_set ?_ GE387.out|refine below_set ?_ GE400.out)|exact HB.out)));(case aF=>exact(fun k_ hk=>⟨(.inr (Nat.le_trans (below_size (by repeat (first|(with_reducible first|exact HB.out|apply below_alloc|apply pw_below_drewN|apply below_drew1|refine below_set ?_ GE387.out|refine below_set ?_ GE400.out)|exact HB.out))) hk)),Kd.freshB (g:=gb387) (o:=.cells #[.int .i64 x388000_1,.slice A386_1 ((rd_T61 l1 0).f1).length c386_1] 61 (0,0)) (by(with_reducible repeat (first|refine blk_drewN ?_ _|refine blk_drew ?_|refine blk_alloc ?_ _));exact BK387.out) k_ hk,Kd.freshB (g:=gb400) (o:=.cells #[.int .i64 ((rd_T61 l0 x20_1).f0),.slice A399_1 ((rd_T61 l0 x20_1).f1).length c399_1] 61 (0,0)) (by(with_reducible repeat (first|refine blk_drewN ?_ _|refine blk_drew ?_|refine blk_alloc ?_ _));exact BK400.out) k_ hk⟩));(case aO=>exact(Kd.Nz <| Kd.N_mono HO_5.out (fun _ hk=>⟨hk.1.1,⟨hk.1.2,hk.2⟩⟩)));(case aS=>exact(below_size (by repeat (first|(with_reducible first|exact HB.out|apply below_alloc|apply pw_below_drewN|apply below_drew1|refine below_set ?_ GE387.out|refine below_set ?_ GE400.out)|exact HB.out))));(case aL=>have:=LMc14.out;omega);intro v403 w22 ho hb hg hat;rw[← Ny402.out] at ho;replace HO_1:=Sd.mk (Kd.V_afterv (ok:=(fun k_=>((P0_ k_∨P1_ k_)∨w.heap.size≤k_)∧k_≠gb387∧k_≠gb400)) (Kd.Vz <| Kd.V_mono HO_1.out (fun _ hk=>⟨⟨hk.1.1,⟨hk.1.2.2,hk.2⟩⟩,hk.1.2.1⟩)) hg hat);replace HO_18:=Sd.mk (Kd.V_afterv (ok:=(fun k_=>((P0_ k_∨P1_ k_)∨w.heap.size≤k_)∧k_≠gb387∧k_≠gb400)) (Kd.Vz <| Kd.V_mono HO_18.out (fun _ hk=>⟨⟨hk.1.1,⟨hk.1.2.2,hk.2⟩⟩,hk.1.2.1⟩)) hg hat);replace HO_388001:=Sd.mk (Kd.V_afterv (ok:=(fun k_=>((P0_ k_∨P1_ k_)∨w.heap.size≤k_)∧k_≠gb387∧k_≠gb400)) (Kd.Vz <| Kd.V_mono HO_388001.out (fun _ hk=>⟨⟨hk.1.1,⟨hk.1.2.2,hk.2⟩⟩,hk.1.2.1⟩)) hg hat);replace BK387:=Sd.mk (blk_grown (g:=gb387) (o:=.cells #[.int .i64 x388000_1,.slice A386_1 ((rd_T61 l1 0).f1).length c386_1] 61 (0,0)) (by(with_reducible repeat (first|refine blk_drewN ?_ _|refine blk_drew ?_|refine blk_alloc ?_ _));exact BK387.out) hg (Kd.N_away HO_5.out (fun _ hk=>hk.1.2)));replace HL399_1:=Sd.mk (Kd.V_afterv (ok:=(fun k_=>((P0_ k_∨P1_ k_)∨w.heap.size≤k_)∧k_≠gb387∧k_≠gb400)) (Kd.Vz <| Kd.V_mono HL399_1.out (fun _ hk=>⟨⟨hk.1.1,⟨hk.1.2.2,hk.2⟩⟩,hk.1.2.1⟩)) hg hat);replace BK400:=Sd.mk (blk_grown (g:=gb400) (o:=.cells #[.int .i64 ((rd_T61 l0 x20_1).f0),.slice A399_1 ((rd_T61 l0 x20_1).f1).length c399_1] 61 (0,0)) (by(with_reducible repeat (first|refine blk_drewN ?_ _|refine blk_drew ?_|refine blk_alloc ?_ _));exact BK400.out) hg (Kd.N_away HO_5.out (fun _ hk=>hk.2)));replace HB:=Sd.mk (hb);have HO404:=Sd.mk (ho);clear HO_5;clear ho hb hg hat;have hcz23_0:w22.cell? ⟨gb387,0,none⟩=some (.int .i64 x388000_1):=(blk_cell BK387.out 0).trans rfl;have hcz23_1:w22.cell? ⟨gb387,1,none⟩=some (.slice A386_1 ((rd_T61 l1 0).f1).length c386_1):=(blk_cell BK387.out 1).trans rfl;have hfz23_0:=blk_frozen BK387.out 0;have hfz23_1:=blk_frozen BK387.out 1;have hcz24_0:w22.cell? ⟨gb400,0,none⟩=some (.int .i64 ((rd_T61 l0 x20_1).f0)):=(blk_cell BK400.out 0).trans rfl;have hcz24_1:w22.cell? ⟨gb400,1,none⟩=some (.slice A399_1 ((rd_T61 l0 x20_1).f1).length c399_1):=(blk_cell BK400.out 1).trans rfl;have hfz24_0:=blk_frozen BK400.out 0;have hfz24_1:=blk_frozen BK400.out 1))
           go_roundg k1
           case measure=>have:=HK1.out;omega
           case rel=>exact⟨(y402),(wrap64 (x20_1+1)),(wrap64 (x388000_1+((rd_T61 l0 x20_1).f0))),(by first|rfl|(simp;done)|(simp[*];done)),H',⟨by have:=HK1.out;omega⟩,⟨Kd.Vz <| Kd.V_mono (Kd.V_far (p:=⟨gb387,0,none⟩) (Kd.V_mono HO_1.out (fun k_ hk=>(⟨hk,hk.1.2.1⟩:_∧k_≠gb387))) (fun _ hk=>hk.2) (.int .i64 (wrap64 (x388000_1+((rd_T61 l0 x20_1).f0))))) (fun _ hk=>⟨hk.1.1.1,⟨hk.1.2,hk.1.1.2.1⟩⟩)⟩,⟨Kd.Nz <| Kd.N_mono (Kd.N_far (p:=⟨gb387,0,none⟩) (Kd.N_mono HO404.out (fun k_ hk=>(⟨hk,hk.2.1⟩:_∧k_≠gb387))) (fun _ hk=>hk.2) (.int .i64 (wrap64 (x388000_1+((rd_T61 l0 x20_1).f0))))) (fun _ hk=>⟨hk.1.1,hk.1.2.1⟩)⟩,⟨Kd.Vz <| Kd.V_mono (Kd.V_far (p:=⟨gb387,0,none⟩) (Kd.V_mono HO_18.out (fun k_ hk=>(⟨hk,hk.1.2.1⟩:_∧k_≠gb387))) (fun _ hk=>hk.2) (.int .i64 (wrap64 (x388000_1+((rd_T61 l0 x20_1).f0))))) (fun _ hk=>⟨hk.1.1.1,⟨hk.1.2,hk.1.1.2.1⟩⟩)⟩,⟨Kd.Vz <| Kd.V_mono (Kd.V_far (p:=⟨gb387,0,none⟩) (Kd.V_mono HO_388001.out (fun k_ hk=>(⟨hk,hk.1.2.1⟩:_∧k_≠gb387))) (fun _ hk=>hk.2) (.int .i64 (wrap64 (x388000_1+((rd_T61 l0 x20_1).f0))))) (fun _ hk=>⟨hk.1.1.1,⟨hk.1.2,hk.1.1.2.1⟩⟩)⟩,⟨by(with_reducible repeat (first|refine blk_drewN ?_ _|refine blk_drew ?_|refine blk_alloc ?_ _));refine blk_put (cs:=#[.int .i64 x388000_1,.slice A386_1 ((rd_T61 l1 0).f1).length c386_1]) ?_ 0 _ rfl;(with_reducible repeat (first|refine blk_drewN ?_ _|refine blk_drew ?_|refine blk_alloc ?_ _));exact BK387.out⟩,⟨by repeat (first|(with_reducible first|exact HB.out|apply below_alloc|apply pw_below_drewN|apply below_drew1|refine below_set ?_ GE387.out|refine below_set ?_ GE400.out)|exact HB.out)⟩⟩
          ·rw[if_neg c15] at H
           have c15b0:(t401 == 0)=false:=beq_eq_false_iff_ne.mpr c15
           have c15b1:(t401 != 0)=true:=bne_iff_ne.mpr c15
           have H':=Sd.mk H
           clear H
           have p399:0≤(x20_1:Int):=dz
           have q399:x20_1<(l0.length:Int):=dz
           obtain⟨ad399,A399_1,c399_1,e399,hx399_0,hx399_1,hl399_1,hi399_1⟩:=at_T61 (Kd.V_reads' HO_18.out).2.2 x20_1 p399 q399
           cases e399
           obtain⟨ce399,hce399,hMe399,hcc399⟩:=Kd.V_get HO_18.out z61 x20_1 p399 (by first|exact q399|exact dz|(have e_:=(Kd.V_reads' HO_18.out).1;omega))
           obtain⟨ua399_1,uc399_1,rfl,ul399_1,ge399_1⟩:=k61_openF hMe399
           have hv399_1:=hcc399 1 _ rfl
           rw[add_field _ _ 1 (by omega)] at hv399_1
           replace hv399_1:=Option.some.inj (hv399_1.symm.trans hx399_1)
           injection hv399_1 with hva_ hvn_ hvc_
           rw[hva_] at ge399_1
           rw[hvc_] at ul399_1
           have HL399_1:=Sd.mk (show Kd.V k61 61 _ w.heap.size _ _ ((rd_T61 l0 x20_1).f1) from Kd.V_mk ul399_1 ge399_1)
           clear hva_ hvn_ hvc_ ge399_1 ul399_1
           clear hcc399 hce399
           have HR399_1:=Sd.mk hi399_1
           have HC399_1:=Sd.mk hl399_1
           clear hi399_1 hl399_1
           replace p399:=eq_true p399
           replace q399:=eq_true q399
           go_wp2_with (first|((with_reducible refine gate_dst (N:=8) rfl ?_);refine box_event ?hg (N:=8) ?hd (cs:=#[.int .i64 0,.slice none 0 0]) (t:=61) ?hr ?_;(case hd=>rfl);(case hg=>rfl);(case hr=>first|(go_simp;done)|(go_simp;rfl));intro gb400 hg w25 hbox hb;replace HO_1:=Sd.mk (Kd.V_below (Kd.V_elderB (Kd.Vz HO_1.out) gb400 (Nat.le_of_eq hg.symm)) hb);replace HO_5:=Sd.mk (Kd.N_below (Kd.N_elderB (Kd.Nz HO_5.out) gb400 (Nat.le_of_eq hg.symm)) hb);replace HO_18:=Sd.mk (Kd.V_below (Kd.V_elderB (Kd.Vz HO_18.out) gb400 (Nat.le_of_eq hg.symm)) hb);replace HO_388001:=Sd.mk (Kd.V_below (Kd.V_elderB (Kd.Vz HO_388001.out) gb400 (Nat.le_of_eq hg.symm)) hb);replace HL399_1:=Sd.mk (Kd.V_below (Kd.V_elderB (Kd.Vz HL399_1.out) gb400 (Nat.le_of_eq hg.symm)) hb);replace HR399_1:=Sd.mk (Kd.C_below (Kd.Cz HR399_1.out) hb);have BK400:=Sd.mk (hbox);have GW400:=Sd.mk ((by rw[hg];exact(below_size (by repeat (first|(with_reducible first|exact HB.out|apply below_alloc|apply pw_below_drewN|apply below_drew1|refine below_set ?_ GE387.out)|exact HB.out))):w.heap.size≤gb400));have GE400:=Sd.mk ((by rw[hg];exact(below_size (by repeat (first|(with_reducible first|exact HB.out|apply below_alloc|apply pw_below_drewN|apply below_drew1|refine below_set ?_ GE387.out)|exact HB.out))):w.heap.size≤gb400));replace HB:=Sd.mk (below_step (by repeat (first|(with_reducible first|exact HB.out|apply below_alloc|apply pw_below_drewN|apply below_drew1|refine below_set ?_ GE387.out)|exact HB.out)) hb);have NB387_400:=Sd.mk ((by rw[hg];exact Nat.ne_of_lt (blk_lt (g:=gb387) (o:=.cells #[.int .i64 x388000_1,.slice A386_1 ((rd_T61 l1 0).f1).length c386_1] 61 (0,0)) (by(with_reducible repeat (first|refine blk_drewN ?_ _|refine blk_drew ?_|refine blk_alloc ?_ _));exact BK387.out)):gb387≠gb400));have NB400_387:=Sd.mk ((by rw[hg];exact Nat.ne_of_gt (blk_lt (g:=gb387) (o:=.cells #[.int .i64 x388000_1,.slice A386_1 ((rd_T61 l1 0).f1).length c386_1] 61 (0,0)) (by(with_reducible repeat (first|refine blk_drewN ?_ _|refine blk_drew ?_|refine blk_alloc ?_ _));exact BK387.out)):gb400≠gb387));replace BK387:=Sd.mk (blk_below (g:=gb387) (o:=.cells #[.int .i64 x388000_1,.slice A386_1 ((rd_T61 l1 0).f1).length c386_1] 61 (0,0)) (by(with_reducible repeat (first|refine blk_drewN ?_ _|refine blk_drew ?_|refine blk_alloc ?_ _));exact BK387.out) hb);clear hb hbox hg;have hnb26:=NB400_387.out;have hnc26:=NB387_400.out;have hcz27_0:w25.cell? ⟨gb400,0,none⟩=some (.int .i64 0):=(blk_cell BK400.out 0).trans rfl;have hcz27_1:w25.cell? ⟨gb400,1,none⟩=some (.slice none 0 0):=(blk_cell BK400.out 1).trans rfl;have hfz27_0:=blk_frozen BK400.out 0;have hfz27_1:=blk_frozen BK400.out 1;have hcz28_0:w25.cell? ⟨gb387,0,none⟩=some (.int .i64 x388000_1):=(blk_cell BK387.out 0).trans rfl;have hcz28_1:w25.cell? ⟨gb387,1,none⟩=some (.slice A386_1 ((rd_T61 l1 0).f1).length c386_1):=(blk_cell BK387.out 1).trans rfl;have hfz28_0:=blk_frozen BK387.out 0;have hfz28_1:=blk_frozen BK387.out 1)|((with_reducible refine gate_callee (f:=50) rfl ?_);refine goesL_ (some 28) rfl rfl Try.func50 (by kernel_rfl) rfl #[.slice A399_1 ((rd_T61 l0 x20_1).f1).length c399_1,.slice A386_1 ((rd_T61 l1 0).f1).length c386_1] rfl az ?_;(with_reducible refine(impl_compare.calls k1 _ _ ((rd_T61 l0 x20_1).f1) _ _ ((rd_T61 l1 0).f1) t401 _ ?side1 ?side2 ?side3 ?side4 A12.out).mono ?_);(case side1=>repeat (first|exact((Kd.V_reads' (by(with_reducible repeat (first|apply Kd.V_alloc|apply Kd.V_drewN|apply Kd.V_drew));exact(Kd.V_mono (Kd.V_far (p:=⟨gb400,1,none⟩) (Kd.V_far (p:=⟨gb400,0,none⟩) (Kd.V_mono HL399_1.out (fun k_ hk=>(⟨hk,hk.2⟩:_∧k_≠gb400))) (fun _ hk=>hk.2) (.int .i64 ((rd_T61 l0 x20_1).f0))) (fun _ hk=>hk.2) (.slice A399_1 ((rd_T61 l0 x20_1).f1).length c399_1)) (fun _ h_=>h_.1)))).2.2)|(with_reducible refine Kd.C_alloc ?_ _)|(with_reducible refine Kd.C_drewN ?_ _)|(with_reducible refine Kd.C_drew ?_)));(case side2=>exact HC399_1.out);(case side3=>refine(Kd.V_reads' (e:=61) (base:=w.heap.size) (ok:=fun k_=>(((((P0_ k_∨P1_ k_)∨w.heap.size≤k_))∧(some k_≠(u5:Value).ownBlock∧k_≠gb387))∧k_≠gb400)) (n:=((rd_T61 l1 0).f1).length) (c:=c386_1) ?_).2.2;exact(by(with_reducible repeat (first|apply Kd.V_alloc|apply Kd.V_drewN|apply Kd.V_drew));exact(Kd.V_mono (Kd.V_far (p:=⟨gb400,1,none⟩) (Kd.V_far (p:=⟨gb400,0,none⟩) (Kd.V_mono HO_388001.out (fun k_ hk=>(⟨hk,hk.2⟩:_∧k_≠gb400))) (fun _ hk=>hk.2) (.int .i64 ((rd_T61 l0 x20_1).f0))) (fun _ hk=>hk.2) (.slice A399_1 ((rd_T61 l0 x20_1).f1).length c399_1)) (fun _ h_=>h_.1))));(case side4=>exact(Kd.V_reads' HO_388001.out).2.1);rintro e w29 ⟨rfl,hb⟩;refine⟨_,rfl,?_⟩;replace HO_1:=Sd.mk (Kd.V_below (by(with_reducible repeat (first|apply Kd.V_alloc|apply Kd.V_drewN|apply Kd.V_drew));exact(Kd.V_mono (Kd.V_far (p:=⟨gb400,1,none⟩) (Kd.V_far (p:=⟨gb400,0,none⟩) (Kd.V_mono HO_1.out (fun k_ hk=>(⟨hk,hk.2⟩:_∧k_≠gb400))) (fun _ hk=>hk.2) (.int .i64 ((rd_T61 l0 x20_1).f0))) (fun _ hk=>hk.2) (.slice A399_1 ((rd_T61 l0 x20_1).f1).length c399_1)) (fun _ h_=>h_.1))) hb);replace HO_5:=Sd.mk (Kd.N_below (by(with_reducible repeat (first|apply Kd.N_alloc|apply Kd.N_drewN|apply Kd.N_drew));exact(Kd.N_mono (Kd.N_far (p:=⟨gb400,1,none⟩) (Kd.N_far (p:=⟨gb400,0,none⟩) (Kd.N_mono HO_5.out (fun k_ hk=>(⟨hk,hk.2⟩:_∧k_≠gb400))) (fun _ hk=>hk.2) (.int .i64 ((rd_T61 l0 x20_1).f0))) (fun _ hk=>hk.2) (.slice A399_1 ((rd_T61 l0 x20_1).f1).length c399_1)) (fun _ h_=>h_.1))) hb);replace HO_18:=Sd.mk (Kd.V_below (by(with_reducible repeat (first|apply Kd.V_alloc|apply Kd.V_drewN|apply Kd.V_drew));exact(Kd.V_mono (Kd.V_far (p:=⟨gb400,1,none⟩) (Kd.V_far (p:=⟨gb400,0,none⟩) (Kd.V_mono HO_18.out (fun k_ hk=>(⟨hk,hk.2⟩:_∧k_≠gb400))) (fun _ hk=>hk.2) (.int .i64 ((rd_T61 l0 x20_1).f0))) (fun _ hk=>hk.2) (.slice A399_1 ((rd_T61 l0 x20_1).f1).length c399_1)) (fun _ h_=>h_.1))) hb);replace HO_388001:=Sd.mk (Kd.V_below (by(with_reducible repeat (first|apply Kd.V_alloc|apply Kd.V_drewN|apply Kd.V_drew));exact(Kd.V_mono (Kd.V_far (p:=⟨gb400,1,none⟩) (Kd.V_far (p:=⟨gb400,0,none⟩) (Kd.V_mono HO_388001.out (fun k_ hk=>(⟨hk,hk.2⟩:_∧k_≠gb400))) (fun _ hk=>hk.2) (.int .i64 ((rd_T61 l0 x20_1).f0))) (fun _ hk=>hk.2) (.slice A399_1 ((rd_T61 l0 x20_1).f1).length c399_1)) (fun _ h_=>h_.1))) hb);replace BK387:=Sd.mk (blk_below (g:=gb387) (o:=.cells #[.int .i64 x388000_1,.slice A386_1 ((rd_T61 l1 0).f1).length c386_1] 61 (0,0)) (by(with_reducible repeat (first|refine blk_drewN ?_ _|refine blk_drew ?_|refine blk_alloc ?_ _));refine blk_far ?_ NB387_400.out _;(with_reducible repeat (first|refine blk_drewN ?_ _|refine blk_drew ?_|refine blk_alloc ?_ _));refine blk_far ?_ NB387_400.out _;(with_reducible repeat (first|refine blk_drewN ?_ _|refine blk_drew ?_|refine blk_alloc ?_ _));exact BK387.out) hb);replace HR399_1:=Sd.mk (Kd.C_below ((Kd.V_reads' (by(with_reducible repeat (first|apply Kd.V_alloc|apply Kd.V_drewN|apply Kd.V_drew));exact(Kd.V_mono (Kd.V_far (p:=⟨gb400,1,none⟩) (Kd.V_far (p:=⟨gb400,0,none⟩) (Kd.V_mono HL399_1.out (fun k_ hk=>(⟨hk,hk.2⟩:_∧k_≠gb400))) (fun _ hk=>hk.2) (.int .i64 ((rd_T61 l0 x20_1).f0))) (fun _ hk=>hk.2) (.slice A399_1 ((rd_T61 l0 x20_1).f1).length c399_1)) (fun _ h_=>h_.1)))).2.2) hb);replace HL399_1:=Sd.mk (Kd.V_below (by(with_reducible repeat (first|apply Kd.V_alloc|apply Kd.V_drewN|apply Kd.V_drew));exact(Kd.V_mono (Kd.V_far (p:=⟨gb400,1,none⟩) (Kd.V_far (p:=⟨gb400,0,none⟩) (Kd.V_mono HL399_1.out (fun k_ hk=>(⟨hk,hk.2⟩:_∧k_≠gb400))) (fun _ hk=>hk.2) (.int .i64 ((rd_T61 l0 x20_1).f0))) (fun _ hk=>hk.2) (.slice A399_1 ((rd_T61 l0 x20_1).f1).length c399_1)) (fun _ h_=>h_.1))) hb);replace BK400:=Sd.mk (blk_below (g:=gb400) (o:=.cells #[.int .i64 ((rd_T61 l0 x20_1).f0),.slice A399_1 ((rd_T61 l0 x20_1).f1).length c399_1] 61 (0,0)) (by(with_reducible repeat (first|refine blk_drewN ?_ _|refine blk_drew ?_|refine blk_alloc ?_ _));refine blk_put (cs:=#[.int .i64 ((rd_T61 l0 x20_1).f0),.slice none 0 0]) ?_ 1 _ rfl;(with_reducible repeat (first|refine blk_drewN ?_ _|refine blk_drew ?_|refine blk_alloc ?_ _));refine blk_put (cs:=#[.int .i64 0,.slice none 0 0]) ?_ 0 _ rfl;(with_reducible repeat (first|refine blk_drewN ?_ _|refine blk_drew ?_|refine blk_alloc ?_ _));exact BK400.out) hb);replace HB:=Sd.mk (below_step (by repeat (first|(with_reducible first|exact HB.out|apply below_alloc|apply pw_below_drewN|apply below_drew1|refine below_set ?_ GE387.out|refine below_set ?_ GE400.out)|exact HB.out)) hb);(try clear hb);(try clear hb2);(try clear hk);(try clear hi);have hcz30_0:w29.cell? ⟨gb400,0,none⟩=some (.int .i64 ((rd_T61 l0 x20_1).f0)):=(blk_cell BK400.out 0).trans rfl;have hcz30_1:w29.cell? ⟨gb400,1,none⟩=some (.slice A399_1 ((rd_T61 l0 x20_1).f1).length c399_1):=(blk_cell BK400.out 1).trans rfl;have hfz30_0:=blk_frozen BK400.out 0;have hfz30_1:=blk_frozen BK400.out 1)|((with_reducible refine gate_builtin (b:=.append) (xs:=#[.tmp 31,.tmp 33]) rfl ?_);at_builtin;refine Kd.N_append k61 (w0:=w) w.heap.size rfl (.tmp 31) (.tmp 33) 46 61 (.agg #[(.int .i64 0),(.slice none 0 0)]) 32 rfl Try.underlying46 info61 rfl (by decide) (by omega) u5 x5_1 (⟨(rd_T61 l0 x20_1).f0,(rd_T61 l0 x20_1).f1⟩:S61) [.int .i64 ((rd_T61 l0 x20_1).f0),.slice A399_1 ((rd_T61 l0 x20_1).f1).length c399_1] (fun k_=>((P0_ k_∨P1_ k_)∨w.heap.size≤k_)∧k_≠gb387∧k_≠gb400) (fun k_=>((fun k_=>((P0_ k_∨P1_ k_)∨w.heap.size≤k_)∧k_≠gb387∧k_≠gb400)) k_∧some k_≠(u5:Value).ownBlock) rfl rfl ?aP (fun _ hk=>hk) ?aF ?aO ?aB ?aS ?aL ?_;(case aP=>exact(k61_mkF _ _ (⟨(rd_T61 l0 x20_1).f0,(rd_T61 l0 x20_1).f1⟩:S61) (Kd.V_reads' (Kd.V_mono (ok':=(fun k_=>((fun k_=>((P0_ k_∨P1_ k_)∨w.heap.size≤k_)∧k_≠gb387∧k_≠gb400)) k_∧some k_≠(u5:Value).ownBlock)) (HL399_1.out) (fun k_ hk=>⟨⟨hk.1.1,⟨hk.1.2.2,hk.2⟩⟩,hk.1.2.1⟩))).2.1 (Kd.V_F (Kd.V_mono (ok':=(fun k_=>((fun k_=>((P0_ k_∨P1_ k_)∨w.heap.size≤k_)∧k_≠gb387∧k_≠gb400)) k_∧some k_≠(u5:Value).ownBlock)) (HL399_1.out) (fun k_ hk=>⟨⟨hk.1.1,⟨hk.1.2.2,hk.2⟩⟩,hk.1.2.1⟩)))));(case aB=>exact(by repeat (first|(with_reducible first|exact HB.out|apply below_alloc|apply pw_below_drewN|apply below_drew1|refine below_set ?_ GE387.out|refine below_set ?_ GE400.out)|exact HB.out)));(case aF=>exact(fun k_ hk=>⟨(.inr (Nat.le_trans (below_size (by repeat (first|(with_reducible first|exact HB.out|apply below_alloc|apply pw_below_drewN|apply below_drew1|refine below_set ?_ GE387.out|refine below_set ?_ GE400.out)|exact HB.out))) hk)),Kd.freshB (g:=gb387) (o:=.cells #[.int .i64 x388000_1,.slice A386_1 ((rd_T61 l1 0).f1).length c386_1] 61 (0,0)) (by(with_reducible repeat (first|refine blk_drewN ?_ _|refine blk_drew ?_|refine blk_alloc ?_ _));exact BK387.out) k_ hk,Kd.freshB (g:=gb400) (o:=.cells #[.int .i64 ((rd_T61 l0 x20_1).f0),.slice A399_1 ((rd_T61 l0 x20_1).f1).length c399_1] 61 (0,0)) (by(with_reducible repeat (first|refine blk_drewN ?_ _|refine blk_drew ?_|refine blk_alloc ?_ _));exact BK400.out) k_ hk⟩));(case aO=>exact(Kd.Nz <| Kd.N_mono HO_5.out (fun _ hk=>⟨hk.1.1,⟨hk.1.2,hk.2⟩⟩)));(case aS=>exact(below_size (by repeat (first|(with_reducible first|exact HB.out|apply below_alloc|apply pw_below_drewN|apply below_drew1|refine below_set ?_ GE387.out|refine below_set ?_ GE400.out)|exact HB.out))));(case aL=>have:=LMc14.out;omega);intro v403 w31 ho hb hg hat;rw[← Ny402.out] at ho;replace HO_1:=Sd.mk (Kd.V_afterv (ok:=(fun k_=>((P0_ k_∨P1_ k_)∨w.heap.size≤k_)∧k_≠gb387∧k_≠gb400)) (Kd.Vz <| Kd.V_mono HO_1.out (fun _ hk=>⟨⟨hk.1.1,⟨hk.1.2.2,hk.2⟩⟩,hk.1.2.1⟩)) hg hat);replace HO_18:=Sd.mk (Kd.V_afterv (ok:=(fun k_=>((P0_ k_∨P1_ k_)∨w.heap.size≤k_)∧k_≠gb387∧k_≠gb400)) (Kd.Vz <| Kd.V_mono HO_18.out (fun _ hk=>⟨⟨hk.1.1,⟨hk.1.2.2,hk.2⟩⟩,hk.1.2.1⟩)) hg hat);replace HO_388001:=Sd.mk (Kd.V_afterv (ok:=(fun k_=>((P0_ k_∨P1_ k_)∨w.heap.size≤k_)∧k_≠gb387∧k_≠gb400)) (Kd.Vz <| Kd.V_mono HO_388001.out (fun _ hk=>⟨⟨hk.1.1,⟨hk.1.2.2,hk.2⟩⟩,hk.1.2.1⟩)) hg hat);replace BK387:=Sd.mk (blk_grown (g:=gb387) (o:=.cells #[.int .i64 x388000_1,.slice A386_1 ((rd_T61 l1 0).f1).length c386_1] 61 (0,0)) (by(with_reducible repeat (first|refine blk_drewN ?_ _|refine blk_drew ?_|refine blk_alloc ?_ _));exact BK387.out) hg (Kd.N_away HO_5.out (fun _ hk=>hk.1.2)));replace HL399_1:=Sd.mk (Kd.V_afterv (ok:=(fun k_=>((P0_ k_∨P1_ k_)∨w.heap.size≤k_)∧k_≠gb387∧k_≠gb400)) (Kd.Vz <| Kd.V_mono HL399_1.out (fun _ hk=>⟨⟨hk.1.1,⟨hk.1.2.2,hk.2⟩⟩,hk.1.2.1⟩)) hg hat);replace BK400:=Sd.mk (blk_grown (g:=gb400) (o:=.cells #[.int .i64 ((rd_T61 l0 x20_1).f0),.slice A399_1 ((rd_T61 l0 x20_1).f1).length c399_1] 61 (0,0)) (by(with_reducible repeat (first|refine blk_drewN ?_ _|refine blk_drew ?_|refine blk_alloc ?_ _));exact BK400.out) hg (Kd.N_away HO_5.out (fun _ hk=>hk.2)));replace HB:=Sd.mk (hb);have HO404:=Sd.mk (ho);clear HO_5;clear ho hb hg hat))
           go_roundg k1
           case measure=>have:=HK1.out;omega
           case rel=>exact⟨(y402),(wrap64 (x20_1+1)),(x388000_1),(by first|rfl|(simp;done)|(simp[*];done)),H',⟨by have:=HK1.out;omega⟩,⟨Kd.Vz <| Kd.V_mono HO_1.out (fun _ hk=>⟨hk.1.1,⟨hk.2,hk.1.2.1⟩⟩)⟩,⟨Kd.Nz <| Kd.N_mono HO404.out (fun _ hk=>⟨hk.1,hk.2.1⟩)⟩,⟨Kd.Vz <| Kd.V_mono HO_18.out (fun _ hk=>⟨hk.1.1,⟨hk.2,hk.1.2.1⟩⟩)⟩,⟨Kd.Vz <| Kd.V_mono HO_388001.out (fun _ hk=>⟨hk.1.1,⟨hk.2,hk.1.2.1⟩⟩)⟩,⟨by(with_reducible repeat (first|refine blk_drewN ?_ _|refine blk_drew ?_|refine blk_alloc ?_ _));exact BK387.out⟩,⟨by repeat (first|(with_reducible first|exact HB.out|apply below_alloc|apply pw_below_drewN|apply below_drew1|refine below_set ?_ GE387.out|refine below_set ?_ GE400.out)|exact HB.out)⟩⟩
         ·rw[if_neg c14] at H
          exact absurd H (by simp)
        ·rw[if_neg c13] at H
         have c13b0:decide (0<t401)=false:=decide_eq_false c13
         clear c13
         by_cases c32:t401=0
         ·rw[if_pos c32] at H
          have c32b0:(t401 == 0)=true:=beq_iff_eq.mpr c32
          have c32b1:(t401 != 0)=false:=bne_eq_false_iff_eq.mpr c32
          clear c32
          have H':=Sd.mk H
          clear H
          have p399:0≤(x20_1:Int):=dz
          have q399:x20_1<(l0.length:Int):=dz
          obtain⟨ad399,A399_1,c399_1,e399,hx399_0,hx399_1,hl399_1,hi399_1⟩:=at_T61 (Kd.V_reads' HO_18.out).2.2 x20_1 p399 q399
          cases e399
          obtain⟨ce399,hce399,hMe399,hcc399⟩:=Kd.V_get HO_18.out z61 x20_1 p399 (by first|exact q399|exact dz|(have e_:=(Kd.V_reads' HO_18.out).1;omega))
          obtain⟨ua399_1,uc399_1,rfl,ul399_1,ge399_1⟩:=k61_openF hMe399
          have hv399_1:=hcc399 1 _ rfl
          rw[add_field _ _ 1 (by omega)] at hv399_1
          replace hv399_1:=Option.some.inj (hv399_1.symm.trans hx399_1)
          injection hv399_1 with hva_ hvn_ hvc_
          rw[hva_] at ge399_1
          rw[hvc_] at ul399_1
          have HL399_1:=Sd.mk (show Kd.V k61 61 _ w.heap.size _ _ ((rd_T61 l0 x20_1).f1) from Kd.V_mk ul399_1 ge399_1)
          clear hva_ hvn_ hvc_ ge399_1 ul399_1
          clear hcc399 hce399
          have HR399_1:=Sd.mk hi399_1
          have HC399_1:=Sd.mk hl399_1
          clear hi399_1 hl399_1
          replace p399:=eq_true p399
          replace q399:=eq_true q399
          go_wp2_with (first|((with_reducible refine gate_dst (N:=8) rfl ?_);refine box_event ?hg (N:=8) ?hd (cs:=#[.int .i64 0,.slice none 0 0]) (t:=61) ?hr ?_;(case hd=>rfl);(case hg=>rfl);(case hr=>first|(go_simp;done)|(go_simp;rfl));intro gb400 hg w33 hbox hb;replace HO_1:=Sd.mk (Kd.V_below (Kd.V_elderB (Kd.Vz HO_1.out) gb400 (Nat.le_of_eq hg.symm)) hb);replace HO_5:=Sd.mk (Kd.N_below (Kd.N_elderB (Kd.Nz HO_5.out) gb400 (Nat.le_of_eq hg.symm)) hb);replace HO_18:=Sd.mk (Kd.V_below (Kd.V_elderB (Kd.Vz HO_18.out) gb400 (Nat.le_of_eq hg.symm)) hb);replace HO_388001:=Sd.mk (Kd.V_below (Kd.V_elderB (Kd.Vz HO_388001.out) gb400 (Nat.le_of_eq hg.symm)) hb);replace HL399_1:=Sd.mk (Kd.V_below (Kd.V_elderB (Kd.Vz HL399_1.out) gb400 (Nat.le_of_eq hg.symm)) hb);replace HR399_1:=Sd.mk (Kd.C_below (Kd.Cz HR399_1.out) hb);have BK400:=Sd.mk (hbox);have GW400:=Sd.mk ((by rw[hg];exact(below_size (by repeat (first|(with_reducible first|exact HB.out|apply below_alloc|apply pw_below_drewN|apply below_drew1|refine below_set ?_ GE387.out)|exact HB.out))):w.heap.size≤gb400));have GE400:=Sd.mk ((by rw[hg];exact(below_size (by repeat (first|(with_reducible first|exact HB.out|apply below_alloc|apply pw_below_drewN|apply below_drew1|refine below_set ?_ GE387.out)|exact HB.out))):w.heap.size≤gb400));replace HB:=Sd.mk (below_step (by repeat (first|(with_reducible first|exact HB.out|apply below_alloc|apply pw_below_drewN|apply below_drew1|refine below_set ?_ GE387.out)|exact HB.out)) hb);have NB387_400:=Sd.mk ((by rw[hg];exact Nat.ne_of_lt (blk_lt (g:=gb387) (o:=.cells #[.int .i64 x388000_1,.slice A386_1 ((rd_T61 l1 0).f1).length c386_1] 61 (0,0)) (by(with_reducible repeat (first|refine blk_drewN ?_ _|refine blk_drew ?_|refine blk_alloc ?_ _));exact BK387.out)):gb387≠gb400));have NB400_387:=Sd.mk ((by rw[hg];exact Nat.ne_of_gt (blk_lt (g:=gb387) (o:=.cells #[.int .i64 x388000_1,.slice A386_1 ((rd_T61 l1 0).f1).length c386_1] 61 (0,0)) (by(with_reducible repeat (first|refine blk_drewN ?_ _|refine blk_drew ?_|refine blk_alloc ?_ _));exact BK387.out)):gb400≠gb387));replace BK387:=Sd.mk (blk_below (g:=gb387) (o:=.cells #[.int .i64 x388000_1,.slice A386_1 ((rd_T61 l1 0).f1).length c386_1] 61 (0,0)) (by(with_reducible repeat (first|refine blk_drewN ?_ _|refine blk_drew ?_|refine blk_alloc ?_ _));exact BK387.out) hb);clear hb hbox hg;have hnb34:=NB400_387.out;have hnc34:=NB387_400.out;have hcz35_0:w33.cell? ⟨gb400,0,none⟩=some (.int .i64 0):=(blk_cell BK400.out 0).trans rfl;have hcz35_1:w33.cell? ⟨gb400,1,none⟩=some (.slice none 0 0):=(blk_cell BK400.out 1).trans rfl;have hfz35_0:=blk_frozen BK400.out 0;have hfz35_1:=blk_frozen BK400.out 1;have hcz36_0:w33.cell? ⟨gb387,0,none⟩=some (.int .i64 x388000_1):=(blk_cell BK387.out 0).trans rfl;have hcz36_1:w33.cell? ⟨gb387,1,none⟩=some (.slice A386_1 ((rd_T61 l1 0).f1).length c386_1):=(blk_cell BK387.out 1).trans rfl;have hfz36_0:=blk_frozen BK387.out 0;have hfz36_1:=blk_frozen BK387.out 1)|((with_reducible refine gate_callee (f:=50) rfl ?_);refine goesL_ (some 28) rfl rfl Try.func50 (by kernel_rfl) rfl #[.slice A399_1 ((rd_T61 l0 x20_1).f1).length c399_1,.slice A386_1 ((rd_T61 l1 0).f1).length c386_1] rfl az ?_;(with_reducible refine(impl_compare.calls k1 _ _ ((rd_T61 l0 x20_1).f1) _ _ ((rd_T61 l1 0).f1) t401 _ ?side1 ?side2 ?side3 ?side4 A12.out).mono ?_);(case side1=>repeat (first|exact((Kd.V_reads' (by(with_reducible repeat (first|apply Kd.V_alloc|apply Kd.V_drewN|apply Kd.V_drew));exact(Kd.V_mono (Kd.V_far (p:=⟨gb400,1,none⟩) (Kd.V_far (p:=⟨gb400,0,none⟩) (Kd.V_mono HL399_1.out (fun k_ hk=>(⟨hk,hk.2⟩:_∧k_≠gb400))) (fun _ hk=>hk.2) (.int .i64 ((rd_T61 l0 x20_1).f0))) (fun _ hk=>hk.2) (.slice A399_1 ((rd_T61 l0 x20_1).f1).length c399_1)) (fun _ h_=>h_.1)))).2.2)|(with_reducible refine Kd.C_alloc ?_ _)|(with_reducible refine Kd.C_drewN ?_ _)|(with_reducible refine Kd.C_drew ?_)));(case side2=>exact HC399_1.out);(case side3=>refine(Kd.V_reads' (e:=61) (base:=w.heap.size) (ok:=fun k_=>(((((P0_ k_∨P1_ k_)∨w.heap.size≤k_))∧(some k_≠(u5:Value).ownBlock∧k_≠gb387))∧k_≠gb400)) (n:=((rd_T61 l1 0).f1).length) (c:=c386_1) ?_).2.2;exact(by(with_reducible repeat (first|apply Kd.V_alloc|apply Kd.V_drewN|apply Kd.V_drew));exact(Kd.V_mono (Kd.V_far (p:=⟨gb400,1,none⟩) (Kd.V_far (p:=⟨gb400,0,none⟩) (Kd.V_mono HO_388001.out (fun k_ hk=>(⟨hk,hk.2⟩:_∧k_≠gb400))) (fun _ hk=>hk.2) (.int .i64 ((rd_T61 l0 x20_1).f0))) (fun _ hk=>hk.2) (.slice A399_1 ((rd_T61 l0 x20_1).f1).length c399_1)) (fun _ h_=>h_.1))));(case side4=>exact(Kd.V_reads' HO_388001.out).2.1);rintro e w37 ⟨rfl,hb⟩;refine⟨_,rfl,?_⟩;replace HO_1:=Sd.mk (Kd.V_below (by(with_reducible repeat (first|apply Kd.V_alloc|apply Kd.V_drewN|apply Kd.V_drew));exact(Kd.V_mono (Kd.V_far (p:=⟨gb400,1,none⟩) (Kd.V_far (p:=⟨gb400,0,none⟩) (Kd.V_mono HO_1.out (fun k_ hk=>(⟨hk,hk.2⟩:_∧k_≠gb400))) (fun _ hk=>hk.2) (.int .i64 ((rd_T61 l0 x20_1).f0))) (fun _ hk=>hk.2) (.slice A399_1 ((rd_T61 l0 x20_1).f1).length c399_1)) (fun _ h_=>h_.1))) hb);replace HO_5:=Sd.mk (Kd.N_below (by(with_reducible repeat (first|apply Kd.N_alloc|apply Kd.N_drewN|apply Kd.N_drew));exact(Kd.N_mono (Kd.N_far (p:=⟨gb400,1,none⟩) (Kd.N_far (p:=⟨gb400,0,none⟩) (Kd.N_mono HO_5.out (fun k_ hk=>(⟨hk,hk.2⟩:_∧k_≠gb400))) (fun _ hk=>hk.2) (.int .i64 ((rd_T61 l0 x20_1).f0))) (fun _ hk=>hk.2) (.slice A399_1 ((rd_T61 l0 x20_1).f1).length c399_1)) (fun _ h_=>h_.1))) hb);replace HO_18:=Sd.mk (Kd.V_below (by(with_reducible repeat (first|apply Kd.V_alloc|apply Kd.V_drewN|apply Kd.V_drew));exact(Kd.V_mono (Kd.V_far (p:=⟨gb400,1,none⟩) (Kd.V_far (p:=⟨gb400,0,none⟩) (Kd.V_mono HO_18.out (fun k_ hk=>(⟨hk,hk.2⟩:_∧k_≠gb400))) (fun _ hk=>hk.2) (.int .i64 ((rd_T61 l0 x20_1).f0))) (fun _ hk=>hk.2) (.slice A399_1 ((rd_T61 l0 x20_1).f1).length c399_1)) (fun _ h_=>h_.1))) hb);replace HO_388001:=Sd.mk (Kd.V_below (by(with_reducible repeat (first|apply Kd.V_alloc|apply Kd.V_drewN|apply Kd.V_drew));exact(Kd.V_mono (Kd.V_far (p:=⟨gb400,1,none⟩) (Kd.V_far (p:=⟨gb400,0,none⟩) (Kd.V_mono HO_388001.out (fun k_ hk=>(⟨hk,hk.2⟩:_∧k_≠gb400))) (fun _ hk=>hk.2) (.int .i64 ((rd_T61 l0 x20_1).f0))) (fun _ hk=>hk.2) (.slice A399_1 ((rd_T61 l0 x20_1).f1).length c399_1)) (fun _ h_=>h_.1))) hb);replace BK387:=Sd.mk (blk_below (g:=gb387) (o:=.cells #[.int .i64 x388000_1,.slice A386_1 ((rd_T61 l1 0).f1).length c386_1] 61 (0,0)) (by(with_reducible repeat (first|refine blk_drewN ?_ _|refine blk_drew ?_|refine blk_alloc ?_ _));refine blk_far ?_ NB387_400.out _;(with_reducible repeat (first|refine blk_drewN ?_ _|refine blk_drew ?_|refine blk_alloc ?_ _));refine blk_far ?_ NB387_400.out _;(with_reducible repeat (first|refine blk_drewN ?_ _|refine blk_drew ?_|refine blk_alloc ?_ _));exact BK387.out) hb);replace HR399_1:=Sd.mk (Kd.C_below ((Kd.V_reads' (by(with_reducible repeat (first|apply Kd.V_alloc|apply Kd.V_drewN|apply Kd.V_drew));exact(Kd.V_mono (Kd.V_far (p:=⟨gb400,1,none⟩) (Kd.V_far (p:=⟨gb400,0,none⟩) (Kd.V_mono HL399_1.out (fun k_ hk=>(⟨hk,hk.2⟩:_∧k_≠gb400))) (fun _ hk=>hk.2) (.int .i64 ((rd_T61 l0 x20_1).f0))) (fun _ hk=>hk.2) (.slice A399_1 ((rd_T61 l0 x20_1).f1).length c399_1)) (fun _ h_=>h_.1)))).2.2) hb);replace HL399_1:=Sd.mk (Kd.V_below (by(with_reducible repeat (first|apply Kd.V_alloc|apply Kd.V_drewN|apply Kd.V_drew));exact(Kd.V_mono (Kd.V_far (p:=⟨gb400,1,none⟩) (Kd.V_far (p:=⟨gb400,0,none⟩) (Kd.V_mono HL399_1.out (fun k_ hk=>(⟨hk,hk.2⟩:_∧k_≠gb400))) (fun _ hk=>hk.2) (.int .i64 ((rd_T61 l0 x20_1).f0))) (fun _ hk=>hk.2) (.slice A399_1 ((rd_T61 l0 x20_1).f1).length c399_1)) (fun _ h_=>h_.1))) hb);replace BK400:=Sd.mk (blk_below (g:=gb400) (o:=.cells #[.int .i64 ((rd_T61 l0 x20_1).f0),.slice A399_1 ((rd_T61 l0 x20_1).f1).length c399_1] 61 (0,0)) (by(with_reducible repeat (first|refine blk_drewN ?_ _|refine blk_drew ?_|refine blk_alloc ?_ _));refine blk_put (cs:=#[.int .i64 ((rd_T61 l0 x20_1).f0),.slice none 0 0]) ?_ 1 _ rfl;(with_reducible repeat (first|refine blk_drewN ?_ _|refine blk_drew ?_|refine blk_alloc ?_ _));refine blk_put (cs:=#[.int .i64 0,.slice none 0 0]) ?_ 0 _ rfl;(with_reducible repeat (first|refine blk_drewN ?_ _|refine blk_drew ?_|refine blk_alloc ?_ _));exact BK400.out) hb);replace HB:=Sd.mk (below_step (by repeat (first|(with_reducible first|exact HB.out|apply below_alloc|apply pw_below_drewN|apply below_drew1|refine below_set ?_ GE387.out|refine below_set ?_ GE400.out)|exact HB.out)) hb);(try clear hb);(try clear hb2);(try clear hk);(try clear hi);have hcz38_0:w37.cell? ⟨gb387,0,none⟩=some (.int .i64 x388000_1):=(blk_cell BK387.out 0).trans rfl;have hcz38_1:w37.cell? ⟨gb387,1,none⟩=some (.slice A386_1 ((rd_T61 l1 0).f1).length c386_1):=(blk_cell BK387.out 1).trans rfl;have hfz38_0:=blk_frozen BK387.out 0;have hfz38_1:=blk_frozen BK387.out 1;have hcz39_0:w37.cell? ⟨gb400,0,none⟩=some (.int .i64 ((rd_T61 l0 x20_1).f0)):=(blk_cell BK400.out 0).trans rfl;have hcz39_1:w37.cell? ⟨gb400,1,none⟩=some (.slice A399_1 ((rd_T61 l0 x20_1).f1).length c399_1):=(blk_cell BK400.out 1).trans rfl;have hfz39_0:=blk_frozen BK400.out 0;have hfz39_1:=blk_frozen BK400.out 1))
          go_roundg k1
          case measure=>have:=HK1.out;omega
          case rel=>exact⟨(x5_1),(wrap64 (x20_1+1)),(wrap64 (x388000_1+((rd_T61 l0 x20_1).f0))),(by first|rfl|(simp;done)|(simp[*];done)),H',⟨by have:=HK1.out;omega⟩,⟨Kd.Vz <| Kd.V_mono (Kd.V_far (p:=⟨gb387,0,none⟩) (Kd.V_mono HO_1.out (fun k_ hk=>(⟨hk,hk.1.2.2⟩:_∧k_≠gb387))) (fun _ hk=>hk.2) (.int .i64 (wrap64 (x388000_1+((rd_T61 l0 x20_1).f0))))) (fun _ hk=>⟨hk.1.1.1,⟨hk.1.1.2.1,hk.1.1.2.2⟩⟩)⟩,⟨Kd.Nz <| Kd.N_mono (Kd.N_far (p:=⟨gb387,0,none⟩) (Kd.N_mono HO_5.out (fun k_ hk=>(⟨hk,hk.1.2⟩:_∧k_≠gb387))) (fun _ hk=>hk.2) (.int .i64 (wrap64 (x388000_1+((rd_T61 l0 x20_1).f0))))) (fun _ hk=>⟨hk.1.1.1,hk.1.1.2⟩)⟩,⟨Kd.Vz <| Kd.V_mono (Kd.V_far (p:=⟨gb387,0,none⟩) (Kd.V_mono HO_18.out (fun k_ hk=>(⟨hk,hk.1.2.2⟩:_∧k_≠gb387))) (fun _ hk=>hk.2) (.int .i64 (wrap64 (x388000_1+((rd_T61 l0 x20_1).f0))))) (fun _ hk=>⟨hk.1.1.1,⟨hk.1.1.2.1,hk.1.1.2.2⟩⟩)⟩,⟨Kd.Vz <| Kd.V_mono (Kd.V_far (p:=⟨gb387,0,none⟩) (Kd.V_mono HO_388001.out (fun k_ hk=>(⟨hk,hk.1.2.2⟩:_∧k_≠gb387))) (fun _ hk=>hk.2) (.int .i64 (wrap64 (x388000_1+((rd_T61 l0 x20_1).f0))))) (fun _ hk=>⟨hk.1.1.1,⟨hk.1.1.2.1,hk.1.1.2.2⟩⟩)⟩,⟨by(with_reducible repeat (first|refine blk_drewN ?_ _|refine blk_drew ?_|refine blk_alloc ?_ _));refine blk_put (cs:=#[.int .i64 x388000_1,.slice A386_1 ((rd_T61 l1 0).f1).length c386_1]) ?_ 0 _ rfl;(with_reducible repeat (first|refine blk_drewN ?_ _|refine blk_drew ?_|refine blk_alloc ?_ _));exact BK387.out⟩,⟨by repeat (first|(with_reducible first|exact HB.out|apply below_alloc|apply pw_below_drewN|apply below_drew1|refine below_set ?_ GE387.out|refine below_set ?_ GE400.out)|exact HB.out)⟩⟩
         ·rw[if_neg c32] at H
          have c32b0:(t401 == 0)=false:=beq_eq_false_iff_ne.mpr c32
          have c32b1:(t401 != 0)=true:=bne_iff_ne.mpr c32
          have H':=Sd.mk H
          clear H
          have p399:0≤(x20_1:Int):=dz
          have q399:x20_1<(l0.length:Int):=dz
          obtain⟨ad399,A399_1,c399_1,e399,hx399_0,hx399_1,hl399_1,hi399_1⟩:=at_T61 (Kd.V_reads' HO_18.out).2.2 x20_1 p399 q399
          cases e399
          obtain⟨ce399,hce399,hMe399,hcc399⟩:=Kd.V_get HO_18.out z61 x20_1 p399 (by first|exact q399|exact dz|(have e_:=(Kd.V_reads' HO_18.out).1;omega))
          obtain⟨ua399_1,uc399_1,rfl,ul399_1,ge399_1⟩:=k61_openF hMe399
          have hv399_1:=hcc399 1 _ rfl
          rw[add_field _ _ 1 (by omega)] at hv399_1
          replace hv399_1:=Option.some.inj (hv399_1.symm.trans hx399_1)
          injection hv399_1 with hva_ hvn_ hvc_
          rw[hva_] at ge399_1
          rw[hvc_] at ul399_1
          have HL399_1:=Sd.mk (show Kd.V k61 61 _ w.heap.size _ _ ((rd_T61 l0 x20_1).f1) from Kd.V_mk ul399_1 ge399_1)
          clear hva_ hvn_ hvc_ ge399_1 ul399_1
          clear hcc399 hce399
          have HR399_1:=Sd.mk hi399_1
          have HC399_1:=Sd.mk hl399_1
          clear hi399_1 hl399_1
          replace p399:=eq_true p399
          replace q399:=eq_true q399
          go_wp2_with (first|((with_reducible refine gate_dst (N:=8) rfl ?_);refine box_event ?hg (N:=8) ?hd (cs:=#[.int .i64 0,.slice none 0 0]) (t:=61) ?hr ?_;(case hd=>rfl);(case hg=>rfl);(case hr=>first|(go_simp;done)|(go_simp;rfl));intro gb400 hg w40 hbox hb;replace HO_1:=Sd.mk (Kd.V_below (Kd.V_elderB (Kd.Vz HO_1.out) gb400 (Nat.le_of_eq hg.symm)) hb);replace HO_5:=Sd.mk (Kd.N_below (Kd.N_elderB (Kd.Nz HO_5.out) gb400 (Nat.le_of_eq hg.symm)) hb);replace HO_18:=Sd.mk (Kd.V_below (Kd.V_elderB (Kd.Vz HO_18.out) gb400 (Nat.le_of_eq hg.symm)) hb);replace HO_388001:=Sd.mk (Kd.V_below (Kd.V_elderB (Kd.Vz HO_388001.out) gb400 (Nat.le_of_eq hg.symm)) hb);replace HL399_1:=Sd.mk (Kd.V_below (Kd.V_elderB (Kd.Vz HL399_1.out) gb400 (Nat.le_of_eq hg.symm)) hb);replace HR399_1:=Sd.mk (Kd.C_below (Kd.Cz HR399_1.out) hb);have BK400:=Sd.mk (hbox);have GW400:=Sd.mk ((by rw[hg];exact(below_size (by repeat (first|(with_reducible first|exact HB.out|apply below_alloc|apply pw_below_drewN|apply below_drew1|refine below_set ?_ GE387.out)|exact HB.out))):w.heap.size≤gb400));have GE400:=Sd.mk ((by rw[hg];exact(below_size (by repeat (first|(with_reducible first|exact HB.out|apply below_alloc|apply pw_below_drewN|apply below_drew1|refine below_set ?_ GE387.out)|exact HB.out))):w.heap.size≤gb400));replace HB:=Sd.mk (below_step (by repeat (first|(with_reducible first|exact HB.out|apply below_alloc|apply pw_below_drewN|apply below_drew1|refine below_set ?_ GE387.out)|exact HB.out)) hb);have NB387_400:=Sd.mk ((by rw[hg];exact Nat.ne_of_lt (blk_lt (g:=gb387) (o:=.cells #[.int .i64 x388000_1,.slice A386_1 ((rd_T61 l1 0).f1).length c386_1] 61 (0,0)) (by(with_reducible repeat (first|refine blk_drewN ?_ _|refine blk_drew ?_|refine blk_alloc ?_ _));exact BK387.out)):gb387≠gb400));have NB400_387:=Sd.mk ((by rw[hg];exact Nat.ne_of_gt (blk_lt (g:=gb387) (o:=.cells #[.int .i64 x388000_1,.slice A386_1 ((rd_T61 l1 0).f1).length c386_1] 61 (0,0)) (by(with_reducible repeat (first|refine blk_drewN ?_ _|refine blk_drew ?_|refine blk_alloc ?_ _));exact BK387.out)):gb400≠gb387));replace BK387:=Sd.mk (blk_below (g:=gb387) (o:=.cells #[.int .i64 x388000_1,.slice A386_1 ((rd_T61 l1 0).f1).length c386_1] 61 (0,0)) (by(with_reducible repeat (first|refine blk_drewN ?_ _|refine blk_drew ?_|refine blk_alloc ?_ _));exact BK387.out) hb);clear hb hbox hg;have hnb41:=NB400_387.out;have hnc41:=NB387_400.out;have hcz42_0:w40.cell? ⟨gb400,0,none⟩=some (.int .i64 0):=(blk_cell BK400.out 0).trans rfl;have hcz42_1:w40.cell? ⟨gb400,1,none⟩=some (.slice none 0 0):=(blk_cell BK400.out 1).trans rfl;have hfz42_0:=blk_frozen BK400.out 0;have hfz42_1:=blk_frozen BK400.out 1;have hcz43_0:w40.cell? ⟨gb387,0,none⟩=some (.int .i64 x388000_1):=(blk_cell BK387.out 0).trans rfl;have hcz43_1:w40.cell? ⟨gb387,1,none⟩=some (.slice A386_1 ((rd_T61 l1 0).f1).length c386_1):=(blk_cell BK387.out 1).trans rfl;have hfz43_0:=blk_frozen BK387.out 0;have hfz43_1:=blk_frozen BK387.out 1)|((with_reducible refine gate_callee (f:=50) rfl ?_);refine goesL_ (some 28) rfl rfl Try.func50 (by kernel_rfl) rfl #[.slice A399_1 ((rd_T61 l0 x20_1).f1).length c399_1,.slice A386_1 ((rd_T61 l1 0).f1).length c386_1] rfl az ?_;(with_reducible refine(impl_compare.calls k1 _ _ ((rd_T61 l0 x20_1).f1) _ _ ((rd_T61 l1 0).f1) t401 _ ?side1 ?side2 ?side3 ?side4 A12.out).mono ?_);(case side1=>repeat (first|exact((Kd.V_reads' (by(with_reducible repeat (first|apply Kd.V_alloc|apply Kd.V_drewN|apply Kd.V_drew));exact(Kd.V_mono (Kd.V_far (p:=⟨gb400,1,none⟩) (Kd.V_far (p:=⟨gb400,0,none⟩) (Kd.V_mono HL399_1.out (fun k_ hk=>(⟨hk,hk.2⟩:_∧k_≠gb400))) (fun _ hk=>hk.2) (.int .i64 ((rd_T61 l0 x20_1).f0))) (fun _ hk=>hk.2) (.slice A399_1 ((rd_T61 l0 x20_1).f1).length c399_1)) (fun _ h_=>h_.1)))).2.2)|(with_reducible refine Kd.C_alloc ?_ _)|(with_reducible refine Kd.C_drewN ?_ _)|(with_reducible refine Kd.C_drew ?_)));(case side2=>exact HC399_1.out);(case side3=>refine(Kd.V_reads' (e:=61) (base:=w.heap.size) (ok:=fun k_=>(((((P0_ k_∨P1_ k_)∨w.heap.size≤k_))∧(some k_≠(u5:Value).ownBlock∧k_≠gb387))∧k_≠gb400)) (n:=((rd_T61 l1 0).f1).length) (c:=c386_1) ?_).2.2;exact(by(with_reducible repeat (first|apply Kd.V_alloc|apply Kd.V_drewN|apply Kd.V_drew));exact(Kd.V_mono (Kd.V_far (p:=⟨gb400,1,none⟩) (Kd.V_far (p:=⟨gb400,0,none⟩) (Kd.V_mono HO_388001.out (fun k_ hk=>(⟨hk,hk.2⟩:_∧k_≠gb400))) (fun _ hk=>hk.2) (.int .i64 ((rd_T61 l0 x20_1).f0))) (fun _ hk=>hk.2) (.slice A399_1 ((rd_T61 l0 x20_1).f1).length c399_1)) (fun _ h_=>h_.1))));(case side4=>exact(Kd.V_reads' HO_388001.out).2.1);rintro e w44 ⟨rfl,hb⟩;refine⟨_,rfl,?_⟩;replace HO_1:=Sd.mk (Kd.V_below (by(with_reducible repeat (first|apply Kd.V_alloc|apply Kd.V_drewN|apply Kd.V_drew));exact(Kd.V_mono (Kd.V_far (p:=⟨gb400,1,none⟩) (Kd.V_far (p:=⟨gb400,0,none⟩) (Kd.V_mono HO_1.out (fun k_ hk=>(⟨hk,hk.2⟩:_∧k_≠gb400))) (fun _ hk=>hk.2) (.int .i64 ((rd_T61 l0 x20_1).f0))) (fun _ hk=>hk.2) (.slice A399_1 ((rd_T61 l0 x20_1).f1).length c399_1)) (fun _ h_=>h_.1))) hb);replace HO_5:=Sd.mk (Kd.N_below (by(with_reducible repeat (first|apply Kd.N_alloc|apply Kd.N_drewN|apply Kd.N_drew));exact(Kd.N_mono (Kd.N_far (p:=⟨gb400,1,none⟩) (Kd.N_far (p:=⟨gb400,0,none⟩) (Kd.N_mono HO_5.out (fun k_ hk=>(⟨hk,hk.2⟩:_∧k_≠gb400))) (fun _ hk=>hk.2) (.int .i64 ((rd_T61 l0 x20_1).f0))) (fun _ hk=>hk.2) (.slice A399_1 ((rd_T61 l0 x20_1).f1).length c399_1)) (fun _ h_=>h_.1))) hb);replace HO_18:=Sd.mk (Kd.V_below (by(with_reducible repeat (first|apply Kd.V_alloc|apply Kd.V_drewN|apply Kd.V_drew));exact(Kd.V_mono (Kd.V_far (p:=⟨gb400,1,none⟩) (Kd.V_far (p:=⟨gb400,0,none⟩) (Kd.V_mono HO_18.out (fun k_ hk=>(⟨hk,hk.2⟩:_∧k_≠gb400))) (fun _ hk=>hk.2) (.int .i64 ((rd_T61 l0 x20_1).f0))) (fun _ hk=>hk.2) (.slice A399_1 ((rd_T61 l0 x20_1).f1).length c399_1)) (fun _ h_=>h_.1))) hb);replace HO_388001:=Sd.mk (Kd.V_below (by(with_reducible repeat (first|apply Kd.V_alloc|apply Kd.V_drewN|apply Kd.V_drew));exact(Kd.V_mono (Kd.V_far (p:=⟨gb400,1,none⟩) (Kd.V_far (p:=⟨gb400,0,none⟩) (Kd.V_mono HO_388001.out (fun k_ hk=>(⟨hk,hk.2⟩:_∧k_≠gb400))) (fun _ hk=>hk.2) (.int .i64 ((rd_T61 l0 x20_1).f0))) (fun _ hk=>hk.2) (.slice A399_1 ((rd_T61 l0 x20_1).f1).length c399_1)) (fun _ h_=>h_.1))) hb);replace BK387:=Sd.mk (blk_below (g:=gb387) (o:=.cells #[.int .i64 x388000_1,.slice A386_1 ((rd_T61 l1 0).f1).length c386_1] 61 (0,0)) (by(with_reducible repeat (first|refine blk_drewN ?_ _|refine blk_drew ?_|refine blk_alloc ?_ _));refine blk_far ?_ NB387_400.out _;(with_reducible repeat (first|refine blk_drewN ?_ _|refine blk_drew ?_|refine blk_alloc ?_ _));refine blk_far ?_ NB387_400.out _;(with_reducible repeat (first|refine blk_drewN ?_ _|refine blk_drew ?_|refine blk_alloc ?_ _));exact BK387.out) hb);replace HR399_1:=Sd.mk (Kd.C_below ((Kd.V_reads' (by(with_reducible repeat (first|apply Kd.V_alloc|apply Kd.V_drewN|apply Kd.V_drew));exact(Kd.V_mono (Kd.V_far (p:=⟨gb400,1,none⟩) (Kd.V_far (p:=⟨gb400,0,none⟩) (Kd.V_mono HL399_1.out (fun k_ hk=>(⟨hk,hk.2⟩:_∧k_≠gb400))) (fun _ hk=>hk.2) (.int .i64 ((rd_T61 l0 x20_1).f0))) (fun _ hk=>hk.2) (.slice A399_1 ((rd_T61 l0 x20_1).f1).length c399_1)) (fun _ h_=>h_.1)))).2.2) hb);replace HL399_1:=Sd.mk (Kd.V_below (by(with_reducible repeat (first|apply Kd.V_alloc|apply Kd.V_drewN|apply Kd.V_drew));exact(Kd.V_mono (Kd.V_far (p:=⟨gb400,1,none⟩) (Kd.V_far (p:=⟨gb400,0,none⟩) (Kd.V_mono HL399_1.out (fun k_ hk=>(⟨hk,hk.2⟩:_∧k_≠gb400))) (fun _ hk=>hk.2) (.int .i64 ((rd_T61 l0 x20_1).f0))) (fun _ hk=>hk.2) (.slice A399_1 ((rd_T61 l0 x20_1).f1).length c399_1)) (fun _ h_=>h_.1))) hb);replace BK400:=Sd.mk (blk_below (g:=gb400) (o:=.cells #[.int .i64 ((rd_T61 l0 x20_1).f0),.slice A399_1 ((rd_T61 l0 x20_1).f1).length c399_1] 61 (0,0)) (by(with_reducible repeat (first|refine blk_drewN ?_ _|refine blk_drew ?_|refine blk_alloc ?_ _));refine blk_put (cs:=#[.int .i64 ((rd_T61 l0 x20_1).f0),.slice none 0 0]) ?_ 1 _ rfl;(with_reducible repeat (first|refine blk_drewN ?_ _|refine blk_drew ?_|refine blk_alloc ?_ _));refine blk_put (cs:=#[.int .i64 0,.slice none 0 0]) ?_ 0 _ rfl;(with_reducible repeat (first|refine blk_drewN ?_ _|refine blk_drew ?_|refine blk_alloc ?_ _));exact BK400.out) hb);replace HB:=Sd.mk (below_step (by repeat (first|(with_reducible first|exact HB.out|apply below_alloc|apply pw_below_drewN|apply below_drew1|refine below_set ?_ GE387.out|refine below_set ?_ GE400.out)|exact HB.out)) hb);(try clear hb);(try clear hb2);(try clear hk);(try clear hi)))
          go_roundg k1
          case measure=>have:=HK1.out;omega
          case rel=>exact⟨(x5_1),(wrap64 (x20_1+1)),(x388000_1),(by first|rfl|(simp;done)|(simp[*];done)),H',⟨by have:=HK1.out;omega⟩,⟨Kd.Vz <| Kd.V_mono HO_1.out (fun _ hk=>⟨hk.1.1,⟨hk.1.2.1,hk.1.2.2⟩⟩)⟩,⟨Kd.Nz <| Kd.N_mono HO_5.out (fun _ hk=>⟨hk.1.1,hk.1.2⟩)⟩,⟨Kd.Vz <| Kd.V_mono HO_18.out (fun _ hk=>⟨hk.1.1,⟨hk.1.2.1,hk.1.2.2⟩⟩)⟩,⟨Kd.Vz <| Kd.V_mono HO_388001.out (fun _ hk=>⟨hk.1.1,⟨hk.1.2.1,hk.1.2.2⟩⟩)⟩,⟨by(with_reducible repeat (first|refine blk_drewN ?_ _|refine blk_drew ?_|refine blk_alloc ?_ _));exact BK387.out⟩,⟨by repeat (first|(with_reducible first|exact HB.out|apply below_alloc|apply pw_below_drewN|apply below_drew1|refine below_set ?_ GE387.out|refine below_set ?_ GE400.out)|exact HB.out)⟩⟩
       ·rw[if_neg c11] at H
        exact absurd H (by simp)
      ·rw[if_neg c10] at H
       exact absurd H (by simp)
     ·rw[if_neg c9] at H
      have c9b0:decide (x20_1<(l0.length:Int))=false:=decide_eq_false c9
      clear c9
      by_cases c45:x5_1.length<4398046511104
      ·rw[if_pos c45] at H
       have LMc45:=Sd.mk c45
       clear c45
       obtain⟨y388,hy388⟩:∃ y_:List (S61),y_=(x5_1++[(⟨x388000_1,((rd_T61 l1 0).f1)⟩:S61)]):=⟨_,rfl⟩
       replace H:(if 1≤(l1.length:Int) then((some (l1.drop 1:List (S61))).bind fun y391=>(if y388.length+y391.length<4398046511104 then(some (y388++y391)) else(none))) else(none))=some r:=hz hy388 H
       have Ny388:=Sd.mk hy388
       clear hy388
       by_cases c46:1≤(l1.length:Int)
       ·rw[if_pos c46] at H
        have c46b0:=eq_true c46
        have c46b1:decide (1≤(l1.length:Int))=true:=decide_eq_true c46
        clear c46
        obtain⟨y391,hy391⟩:∃ y_:List (S61),y_=(l1.drop 1):=⟨_,rfl⟩
        replace H:(if y388.length+y391.length<4398046511104 then(some (y388++y391)) else(none))=some r:=hz hy391 H
        have Ny391:=Sd.mk hy391
        clear hy391
        by_cases c47:y388.length+y391.length<4398046511104
        ·rw[if_pos c47] at H
         have LMc47:=Sd.mk c47
         clear c47
         obtain⟨y396,hy396⟩:∃ y_:List (S61),y_=(y388++y391):=⟨_,rfl⟩
         replace H:(some y396)=some r:=hz hy396 H
         have Ny396:=Sd.mk hy396
         clear hy396
         obtain rfl:=Option.some.inj H
         try go_wp2
         have n0_:=Sd.mk (Kd.V_drew HO_1.out)
         have n1_:=Sd.mk (Kd.N_drew HO_5.out)
         have n2_:=Sd.mk (Kd.V_drew HO_18.out)
         have n3_:=Sd.mk (Kd.V_drew HO_388001.out)
         have n4_:=Sd.mk (blk_drew BK387.out)
         have n5_:=Sd.mk (below_drew1 HB.out)
         clear HO_1
         clear HO_5
         clear HO_18
         clear HO_388001
         clear BK387
         clear HB
         have HO_1:=n0_
         have HO_5:=n1_
         have HO_18:=n2_
         have HO_388001:=n3_
         have BK387:=n4_
         have HB:=n5_
         clear n0_ n1_ n2_ n3_ n4_ n5_
         have q49:(1:Int)≤((l1.length:Int):Int):=dz
         obtain⟨i049,hi049,_,hsz49,_⟩:=info_parts info61
         have hroom49:l1.length≤c1:=(Kd.V_reads' HO_1.out).2.1
         have hC49:Kd.F k61 _ _ (some ad386) l1.length l1:=(Kd.V_at (base:=w.heap.size) HO_1.out).2.2
         have hcut49:=cut_from (P:=Try.prog) 46 61 .i64 Try.underlying46 hi049 2 hsz49 (some ad386) l1.length c1 1 (by omega) q49
         have hr49:=Kd.F_cut (m:=(1:Int).toNat) (c:=c1) hC49 (by omega) hroom49
         obtain⟨A49,hA49⟩:∃ Aq_,Aq_=(if c1=(1:Int).toNat then(some ad386) else((some ad386):Option Addr).map (·.add ((1:Int).toNat*2))):=⟨_,rfl⟩
         obtain⟨c49,hc49⟩:∃ cq_,cq_=c1-(1:Int).toNat:=⟨_,rfl⟩
         have hy49:y391.length=l1.length-(1:Int).toNat:=(by rw[Ny391.out,List.length_drop]<;>omega)
         rw[show (l1).drop (1:Int).toNat=y391 from Ny391.out.symm] at hr49
         replace hr49:Kd.F k61 _ _ A49 y391.length y391:=(by rw[hA49];exact hr49)
         rw[← hy49,← hA49,← hc49] at hcut49
         have HO395:=Sd.mk (show Kd.V k61 61 _ w.heap.size _ (.slice A49 y391.length c49) y391 from Kd.V_mk (by rw[hy49,hc49];exact Nat.sub_le_sub_right hroom49 _) hr49)
         have HC395:=Sd.mk (show y391.length≤c49 from by rw[hy49,hc49];exact Nat.sub_le_sub_right hroom49 _)
         clear hr49 hC49 hroom49 hi049 hsz49 hc49
         have KY49:=Sd.mk hy49
         have KA49:=Sd.mk hA49
         clear hy49 hA49
         replace q49:=eq_true q49
         refine start_ (n:=8) (S:=fun w'=>w'.cell? ⟨gb387,0,none⟩=some (.int .i64 x388000_1)∧w'.cell? ⟨gb387,1,none⟩=some (.slice A386_1 ((rd_T61 l1 0).f1).length c386_1)) (ds:=[]) #[F,F,F,F,F,F,F,F] (by kernel_rfl) rfl rfl ⟨(blk_cell BK387.out 0).trans rfl,(blk_cell BK387.out 1).trans rfl⟩ (fun hHeld=>?_);refine with_tabW impl_add.tab14 impl_add.bits14 (fun HT_ HW_=>?_)
         generalize wr.drew=w48 at HO_1 HO_5 HO_18 HO_388001 BK387 HB HO395 hHeld ⊢
         refine pq 0 (some 44) HT_.out rfl rfl ?_
         refine pq 4 (some 48) HT_.out rfl rfl ?_
         refine pq 5 (some 49) HT_.out rfl rfl ?_
         refine take_ (i:=1) (N:=some 45) (v:=?_) (a':=?_) #[T,T,F,F,T,T,F,F] rfl rfl (take_ofW HT_.out HW_.out (by kernel_rfl)) (fun _ _ _ h=>h) (Or.inl ⟨by rfl,?_⟩) hHeld ?_ ?_
         rotate_left;(· rintro w' ⟨s0,s1⟩;go_simp;with_reducible rfl);rotate_left;(· simp only[Act.put,s1,s2,s3,i64_w,i32_w];rfl)
         refine one_ (i:=2) (N:=some 46) #[T,T,T,F,T,T,F,F] rfl rfl (one_of HT_.out (by kernel_rfl)) (by decide) (fun K hK=>?_)
         refine value_ (w1:=?_) (v:=?_) (by rfl) rfl ?_ ?_
         rotate_left 2
         ·go_simp
          constructor
          ·rfl
          ·rfl
         refine hK.out _ _ ⟨(blk_cell (blk_alloc BK387.out _) 0).trans rfl,(blk_cell (blk_alloc BK387.out _) 1).trans rfl⟩ (fun hHeld=>?_)
         clear hK K
         refine norm_ (a':=?_) ?_ ?_
         rotate_left
         ·show Act.put _ (some 46) _=_
          simp only[Act.put,s1,s2,s3,i64_w,i32_w]
          rfl
         refine one_ (i:=3) (N:=some 47) #[T,T,T,T,T,T,F,F] rfl rfl (one_of HT_.out (by kernel_rfl)) (by decide) (fun K hK=>?_)
         refine Kd.N_append_step k61 (w0:=w) w.heap.size (by rfl) (.tmp 44) (.tmp 46) 46 61 (.agg #[(.int .i64 0),(.slice none 0 0)]) 32 rfl Try.underlying46 info61 rfl (by decide) (by omega) u5 x5_1 (⟨x388000_1,((rd_T61 l1 0).f1)⟩:S61) [.int .i64 x388000_1,.slice A386_1 ((rd_T61 l1 0).f1).length c386_1] (fun k_=>((P0_ k_∨P1_ k_)∨w.heap.size≤k_)∧k_≠gb387) (fun k_=>((fun k_=>((P0_ k_∨P1_ k_)∨w.heap.size≤k_)∧k_≠gb387)) k_∧some k_≠(u5:Value).ownBlock) rfl rfl ?aP (fun _ hk=>hk) ?aF ?aO ?aB ?aS ?aL ?_
         (case aP=>exact(k61_mkF _ _ (⟨x388000_1,((rd_T61 l1 0).f1)⟩:S61) (Kd.V_reads' (Kd.V_mono (ok':=(fun k_=>((fun k_=>((P0_ k_∨P1_ k_)∨w.heap.size≤k_)∧k_≠gb387)) k_∧some k_≠(u5:Value).ownBlock)) (HO_388001.out) (fun k_ hk=>⟨⟨hk.1,hk.2.2⟩,hk.2.1⟩))).2.1 (Kd.V_F (Kd.V_mono (ok':=(fun k_=>((fun k_=>((P0_ k_∨P1_ k_)∨w.heap.size≤k_)∧k_≠gb387)) k_∧some k_≠(u5:Value).ownBlock)) (HO_388001.out) (fun k_ hk=>⟨⟨hk.1,hk.2.2⟩,hk.2.1⟩)))))
         (case aB=>exact(by repeat (first|(with_reducible first|exact HB.out|apply below_alloc|apply pw_below_drewN|apply below_drew1|refine below_set ?_ GE387.out)|exact HB.out)))
         (case aF=>exact(fun k_ hk=>⟨(.inr (Nat.le_trans (below_size (by repeat (first|(with_reducible first|exact HB.out|apply below_alloc|apply pw_below_drewN|apply below_drew1|refine below_set ?_ GE387.out)|exact HB.out))) hk)),Kd.freshB (g:=gb387) (o:=.cells #[.int .i64 x388000_1,.slice A386_1 ((rd_T61 l1 0).f1).length c386_1] 61 (0,0)) (by(with_reducible repeat (first|refine blk_drewN ?_ _|refine blk_drew ?_|refine blk_alloc ?_ _));exact BK387.out) k_ hk⟩))
         (case aO=>exact(Kd.Nz HO_5.out))
         (case aS=>exact(below_size (by repeat (first|(with_reducible first|exact HB.out|apply below_alloc|apply pw_below_drewN|apply below_drew1|refine below_set ?_ GE387.out)|exact HB.out))))
         (case aL=>have:=LMc45.out;omega)
         intro v389 w50 ho hb hg hat
         rw[← Ny388.out] at ho
         have n0_:=Sd.mk (Kd.V_afterv (ok:=(fun k_=>((P0_ k_∨P1_ k_)∨w.heap.size≤k_)∧k_≠gb387)) (Kd.Vz <| Kd.V_mono HO_1.out (fun _ hk=>⟨⟨hk.1,hk.2.2⟩,hk.2.1⟩)) hg hat)
         have n1_:=Sd.mk (Kd.V_afterv (ok:=(fun k_=>((P0_ k_∨P1_ k_)∨w.heap.size≤k_)∧k_≠gb387)) (Kd.Vz <| Kd.V_mono HO_18.out (fun _ hk=>⟨⟨hk.1,hk.2.2⟩,hk.2.1⟩)) hg hat)
         have n2_:=Sd.mk (Kd.V_afterv (ok:=(fun k_=>((P0_ k_∨P1_ k_)∨w.heap.size≤k_)∧k_≠gb387)) (Kd.Vz <| Kd.V_mono HO_388001.out (fun _ hk=>⟨⟨hk.1,hk.2.2⟩,hk.2.1⟩)) hg hat)
         have n3_:=Sd.mk (blk_grown (g:=gb387) (o:=.cells #[.int .i64 x388000_1,.slice A386_1 ((rd_T61 l1 0).f1).length c386_1] 61 (0,0)) (by(with_reducible repeat (first|refine blk_drewN ?_ _|refine blk_drew ?_|refine blk_alloc ?_ _));exact BK387.out) hg (Kd.N_away HO_5.out (fun _ hk=>hk.2)))
         have n4_:=Sd.mk (Kd.V_afterv (ok:=(fun k_=>((P0_ k_∨P1_ k_)∨w.heap.size≤k_)∧k_≠gb387)) (Kd.Vz <| Kd.V_mono HO395.out (fun _ hk=>⟨⟨hk.1,hk.2.2⟩,hk.2.1⟩)) hg hat)
         have n5_:=Sd.mk (hb)
         have n6_:=Sd.mk (ho)
         clear HO_1
         clear HO_18
         clear HO_388001
         clear BK387
         clear HO395
         clear HB
         clear HO_5
         have HO_1:=n0_
         have HO_18:=n1_
         have HO_388001:=n2_
         have BK387:=n3_
         have HO395:=n4_
         have HB:=n5_
         have HO390:=n6_
         clear n0_ n1_ n2_ n3_ n4_ n5_ n6_
         clear ho hb hg hat
         refine hK.out _ _ ⟨(blk_cell BK387.out 0).trans rfl,(blk_cell BK387.out 1).trans rfl⟩ (fun hHeld=>?_)
         clear hK K
         refine norm_ (a':=?_) ?_ ?_
         rotate_left
         ·show Act.put _ (some 47) _=_
          simp only[Act.put,s1,s2,s3,i64_w,i32_w]
          rfl
         refine one_ (i:=6) (N:=some 50) #[T,T,T,T,T,T,T,F] rfl rfl (one_of HT_.out (by kernel_rfl)) (by decide) (fun K hK=>?_)
         refine Kd.N_append_rows_step k61 (w0:=w) w.heap.size (by rfl) (.tmp 47) (.tmp 49) 46 61 (.agg #[(.int .i64 0),(.slice none 0 0)]) 32 rfl Try.underlying46 info61 rfl (by decide) (by omega) v389 y388 y391 _ _ _ (fun k_=>((P0_ k_∨P1_ k_)∨w.heap.size≤k_)∧k_≠gb387) (fun k_=>((fun k_=>((P0_ k_∨P1_ k_)∨w.heap.size≤k_)∧k_≠gb387)) k_∧some k_≠(v389:Value).ownBlock) rfl rfl ?aO ?aR (fun _ hk=>hk) ?aF ?aB ?aS ?aL ?_
         (case aR=>exact(by skip;exact Kd.V_F (Kd.V_mono (ok':=(fun k_=>((fun k_=>((P0_ k_∨P1_ k_)∨w.heap.size≤k_)∧k_≠gb387)) k_∧some k_≠(v389:Value).ownBlock)) (HO395.out) (fun k_ hk=>⟨⟨hk.1.1,hk.1.2⟩,hk.2⟩))))
         (case aB=>exact(by repeat (first|(with_reducible first|exact HB.out|apply below_alloc|apply pw_below_drewN|apply below_drew1|refine below_set ?_ GE387.out)|exact HB.out)))
         (case aF=>exact(fun k_ hk=>⟨(.inr (Nat.le_trans (below_size (by repeat (first|(with_reducible first|exact HB.out|apply below_alloc|apply pw_below_drewN|apply below_drew1|refine below_set ?_ GE387.out)|exact HB.out))) hk)),Kd.freshB (g:=gb387) (o:=.cells #[.int .i64 x388000_1,.slice A386_1 ((rd_T61 l1 0).f1).length c386_1] 61 (0,0)) (by(with_reducible repeat (first|refine blk_drewN ?_ _|refine blk_drew ?_|refine blk_alloc ?_ _));exact BK387.out) k_ hk⟩))
         (case aO=>exact(Kd.Nz HO390.out))
         (case aS=>exact(below_size (by repeat (first|(with_reducible first|exact HB.out|apply below_alloc|apply pw_below_drewN|apply below_drew1|refine below_set ?_ GE387.out)|exact HB.out))))
         (case aL=>have:=LMc47.out;omega)
         intro v397 w51 ho hb hg hat
         rw[← Ny396.out] at ho
         have n0_:=Sd.mk (Kd.V_afterv (ok:=(fun k_=>((P0_ k_∨P1_ k_)∨w.heap.size≤k_)∧k_≠gb387)) (Kd.Vz HO_1.out) hg hat)
         have n1_:=Sd.mk (Kd.V_afterv (ok:=(fun k_=>((P0_ k_∨P1_ k_)∨w.heap.size≤k_)∧k_≠gb387)) (Kd.Vz HO_18.out) hg hat)
         have n2_:=Sd.mk (Kd.V_afterv (ok:=(fun k_=>((P0_ k_∨P1_ k_)∨w.heap.size≤k_)∧k_≠gb387)) (Kd.Vz HO_388001.out) hg hat)
         have n3_:=Sd.mk (blk_grown (g:=gb387) (o:=.cells #[.int .i64 x388000_1,.slice A386_1 ((rd_T61 l1 0).f1).length c386_1] 61 (0,0)) (by(with_reducible repeat (first|refine blk_drewN ?_ _|refine blk_drew ?_|refine blk_alloc ?_ _));exact BK387.out) hg (Kd.N_away HO390.out (fun _ hk=>hk.2)))
         have n4_:=Sd.mk (Kd.V_afterv (ok:=(fun k_=>((P0_ k_∨P1_ k_)∨w.heap.size≤k_)∧k_≠gb387)) (Kd.Vz HO395.out) hg hat)
         have n5_:=Sd.mk (hb)
         have n6_:=Sd.mk (ho)
         clear HO_1
         clear HO_18
         clear HO_388001
         clear BK387
         clear HO395
         clear HB
         clear HO390
         have HO_1:=n0_
         have HO_18:=n1_
         have HO_388001:=n2_
         have BK387:=n3_
         have HO395:=n4_
         have HB:=n5_
         have HO398:=n6_
         clear n0_ n1_ n2_ n3_ n4_ n5_ n6_
         clear ho hb hg hat
         refine hK.out _ _ ⟨(blk_cell BK387.out 0).trans rfl,(blk_cell BK387.out 1).trans rfl⟩ (fun hHeld=>?_)
         clear hK K
         refine norm_ (a':=?_) ?_ ?_
         rotate_left
         ·show Act.put _ (some 50) _=_
          simp only[Act.put,s1,s2,s3,i64_w,i32_w]
          rfl
         refine pq 7 (some 4) HT_.out rfl rfl ?_
         refine done_ (done_of HT_.out (by kernel_rfl)) ?_
         try go_wp2
         go_ret
         exact⟨_,by first|rfl|(simp[errW_none,errW_some]<;>rfl)|(simp[*,errW_none,errW_some]<;>rfl),Kd.N_V (Kd.Nz <| Kd.N_mono HO398.out (fun _ hk=>hk.1)),by repeat (first|(with_reducible first|exact HB.out|apply below_alloc|apply pw_below_drewN|apply below_drew1|refine below_set ?_ GE387.out)|exact HB.out)⟩
        ·rw[if_neg c47] at H
         exact absurd H (by simp)
       ·rw[if_neg c46] at H
        exact absurd H (by simp)
      ·rw[if_neg c45] at H
       exact absurd H (by simp)
  ·rw[if_neg c4] at H
   exact absurd H (by simp)
end Go.Proofs.Ytfblcanijhnhmaa.P