/- One Go function comes to what its Lean function tells. -/
import Derived.Test.YtfblcanijhnhmaaP0
import Derived.Test.YtfblcanijhnhmaaPimpladd
namespace Go.Proofs.Ytfblcanijhnhmaa.P
open Go.RowKit YtfblcanijhnhmaaW.PrintWords YtfblcanijhnhmaaW.PrintLast YtfblcanijhnhmaaW.PrintMore
set_option linter.unusedVariables false
set_option linter.unusedSimpArgs false
/-! ### impl_times: function 57 -/
def impl_times.l0:Nat→List (S61)→List (S61)→List (S61)→Int→Int→Option ((List (S61)))
 | 0,_,_,_,_,_=>none
 | k+1,x0,x5,x13,x14,x15=>if x15<x14 then(if 0≤x15 then(if x15<(x13.length:Int) then(if(((rd_T61 x13 x15).f1).length:Int)>0 then(if 0<(x0.length:Int) then((impl_add.f k ((rd_T61 x0 0).f1) ((rd_T61 x13 x15).f1)).bind fun t890=>(if x5.length<4398046511104 then(impl_times.l0 k x0 (x5++[(⟨(rd_T61 x13 x15).f0,t890⟩:S61)]) x13 x14 (wrap64 (x15+1))) else(none))) else(none)) else(if 0<(x0.length:Int) then(if x5.length<4398046511104 then((some (x5++[(⟨wrap64 (((rd_T61 x0 0).f0)*((rd_T61 x13 x15).f0)),(rd_T61 x0 0).f1⟩:S61)]:List (S61))).bind fun y898=>(if 1≤(x0.length:Int) then((some (x0.drop 1:List (S61))).bind fun y901=>(if y898.length+y901.length<4398046511104 then(impl_times.l0 k x0 (y898++y901) x13 x14 (wrap64 (x15+1))) else(none))) else(none))) else(none)) else(none))) else(none)) else(none)) else(some x5)
def impl_times.f (k:Nat)(l0:List (S61))(l1:List (S61)):Option ((List (S61))):=(some (([]:List (S61)):List (S61))).bind fun y884=>(if(l0.length:Int)=0 then(some y884) else(impl_times.l0 k l0 y884 l1 (l1.length:Int) 0))
theorem impl_times.mono_l:∀ k,(∀ y0 y1 y2 y3 y4,LeO (impl_times.l0 k y0 y1 y2 y3 y4) (impl_times.l0 (k+1) y0 y1 y2 y3 y4))
 | 0=>fun _ _ _ _ _ r h=>by simp[impl_times.l0] at h
 | k+1=>by
  have ih0:=impl_times.mono_l k
  ·intro y0 y1 y2 y3 y4
   unfold impl_times.l0
   repeat' first|(with_reducible first|exact ih0 _ _ _ _ _|exact impl_add.mono _ _ _|exact LeO.refl _|exact LeO.none _|refine LeO.ite ?_ ?_|refine LeO.bind ?_ (fun _=>?_))|exact ih0 _ _ _ _ _|exact impl_add.mono _ _ _|exact LeO.none _|refine LeO.ite ?_ ?_|refine LeO.bind ?_ (fun _=>?_)
theorem impl_times.mono:∀ a0 a1 k,LeO (impl_times.f k a0 a1) (impl_times.f (k+1) a0 a1):=by
 intro a0 a1 k
 have ih0:=impl_times.mono_l k
 unfold impl_times.f
 repeat' first|(with_reducible first|exact ih0 _ _ _ _ _|exact LeO.refl _|exact LeO.none _|refine LeO.ite ?_ ?_|refine LeO.bind ?_ (fun _=>?_))|exact ih0 _ _ _ _ _|exact LeO.none _|refine LeO.ite ?_ ?_|refine LeO.bind ?_ (fun _=>?_)
def impl_times.T8:Bool × List (List Nat × List Nat):=(true,[([],[]),([],[]),([1],[1]),([],[]),([3],[3]),([4],[4]),([5],[5]),([],[]),([7],[7]),([6,8],[6,8]),([2,9],[2,9]),([10],[10]),([0,11,9],[0,11]),([12,12,0,1,2,3,4,5,6,7,8,9,10,11,12],[0,12])])
def impl_times.B8:List Nat:=[0,0,2,0,8,24,56,0,128,504,1022,2046,4095,8191]
theorem impl_times.tab8:rtab .any (opsOf Try.f57 8)=impl_times.T8:=by kernel_rfl
theorem impl_times.bits8:waitsOk impl_times.T8.2 impl_times.B8=true:=by kernel_rfl
def impl_times.T9:Bool × List (List Nat × List Nat):=(true,[([],[]),([],[]),([1],[1]),([2],[2]),([3],[3]),([],[]),([5],[5]),([4,6],[4,6]),([],[]),([8],[8]),([9],[9]),([10],[10]),([7,11],[7,11]),([12],[12]),([0,13],[0,13]),([14,14,0,1,2,3,4,5,6,7,8,9,10,11,12,13,14],[0,14])])
def impl_times.B9:List Nat:=[0,0,2,6,14,0,32,126,0,256,768,1792,4094,8190,16383,32767]
theorem impl_times.tab9:rtab .any (opsOf Try.f57 9)=impl_times.T9:=by kernel_rfl
theorem impl_times.bits9:waitsOk impl_times.T9.2 impl_times.B9=true:=by kernel_rfl
set_option maxHeartbeats 8000000 in
set_option maxRecDepth 100000 in
theorem impl_times.calls (k:Nat)(P0_:Nat→Prop)(A0:Option Addr)(c0:Nat)(l0:List (S61))(P1_:Nat→Prop)(A1:Option Addr)(c1:Nat)(l1:List (S61))(r:List (S61))(w:World)(hs0:Kd.V k61 61 w w.heap.size (fun k_=>P0_ k_) (.slice A0 l0.length c0) l0)(hs1:Kd.V k61 61 w w.heap.size (fun k_=>P1_ k_) (.slice A1 l1.length c1) l1)(h:impl_times.f k l0 l1=some r) :
  Calls Try.prog 57 #[.slice A0 l0.length c0,.slice A1 l1.length c1] w fun e w'=>∃ v0_:Value,e=.returned (v0_)∧Kd.N k61 61 w' w.heap.size (fun k_=>((P0_ k_∨P1_ k_)∨w.heap.size≤k_)) v0_ r∧Below w.heap.size w w':=by
 have hu61:=Try.underlying61
 have HO0:=Aside0.mk (show Kd.V k61 61 w w.heap.size (fun k_=>((P0_ k_∨P1_ k_)∨w.heap.size≤k_)) (.slice A0 l0.length c0) l0 from Kd.V_mono hs0 (fun k_ hk=>.inl (.inl hk)))
 have HO1:=Aside0.mk (show Kd.V k61 61 w w.heap.size (fun k_=>((P0_ k_∨P1_ k_)∨w.heap.size≤k_)) (.slice A1 l1.length c1) l1 from Kd.V_mono hs1 (fun k_ hk=>.inl (.inr hk)))
 have HB:=Aside0.mk (Below.refl w.heap.size w)
 have H:((some (([]:List (S61)):List (S61))).bind fun y884=>(if(l0.length:Int)=0 then(some y884) else(impl_times.l0 k l0 y884 l1 (l1.length:Int) 0)))=some r:=h
 clear h
 obtain⟨y884,hy884⟩:∃ y_:List (S61),y_=(([]:List (S61))):=⟨_,rfl⟩
 replace H:(if(l0.length:Int)=0 then(some y884) else(impl_times.l0 k l0 y884 l1 (l1.length:Int) 0))=some r:=hz hy884 H
 have Ny884:=Aside0.mk hy884
 clear hy884
 by_cases c3:(l0.length:Int)=0
 ·rw[if_pos c3] at H
  have c3b0:((l0.length:Int) == 0)=true:=beq_iff_eq.mpr c3
  have c3b1:((l0.length:Int) != 0)=false:=bne_eq_false_iff_eq.mpr c3
  clear c3
  obtain rfl:=Option.some.inj H
  go_enter Try.func57,Try.ntmps57
  go_wp2_with (first|((with_reducible refine gate_dst (N:=8) rfl ?_);refine Kd.N_lit k61 _ 61 ?hg (N':=8) ?hd (xs:=([]:List (S61))) (inner:=[]) (ok:=(fun k_=>((P0_ k_∨P1_ k_)∨w.heap.size≤k_))) (okp:=(fun k_=>((P0_ k_∨P1_ k_)∨w.heap.size≤k_))) ?hr ?hp (fun _ hk=>hk) ((show ∀ k_,w.heap.size≤k_→(fun k_=>((P0_ k_∨P1_ k_)∨w.heap.size≤k_)) k_ from fun k_ hk=>(.inr (Nat.le_trans (below_size bz) hk))) _ (Nat.le_refl _)) (Below.refl _ _) (Nat.le_refl _) (by simp) ?_;(case hd=>rfl);(case hg=>rfl);(case hr=>first|(go_simp;done)|(go_simp;rfl));(case hp=>exact(Reps.none _ _));intro v885 w4 ho5 hb hg_ hnew_;clear hg_ hnew_;(first|rw[← Ny884.out] at ho5|(simp only[Int.reduceToNat] at ho5;rw[← Ny884.out] at ho5));replace HO0:=Aside0.mk (Kd.V_elder' (Kd.Vz HO0.out) (Kd.N_base ho5) hb);replace HO1:=Aside0.mk (Kd.V_elder' (Kd.Vz HO1.out) (Kd.N_base ho5) hb);have HO886:=Aside0.mk (Kd.N_lower ho5 (below_size bz));replace HB:=Aside0.mk (below_step bz hb);clear hb ho5))
  go_ret
  exact⟨_,by first|rfl|(simp[errW_none,errW_some]<;>rfl)|(simp[*,errW_none,errW_some]<;>rfl),by(with_reducible repeat (first|apply Kd.N_alloc|apply Kd.N_drewN|apply Kd.N_drew));exact HO886.out,bz⟩
 ·rw[if_neg c3] at H
  have c3b0:((l0.length:Int) == 0)=false:=beq_eq_false_iff_ne.mpr c3
  have c3b1:((l0.length:Int) != 0)=true:=bne_iff_ne.mpr c3
  have c3b2:¬ (l0=[]):=fun h_=>c3 (by rw[h_];rfl)
  have H':=Aside0.mk H
  clear H
  go_enter Try.func57,Try.ntmps57
  go_wp2_with (first|((with_reducible refine gate_dst (N:=8) rfl ?_);refine Kd.N_lit k61 _ 61 ?hg (N':=8) ?hd (xs:=([]:List (S61))) (inner:=[]) (ok:=(fun k_=>((P0_ k_∨P1_ k_)∨w.heap.size≤k_))) (okp:=(fun k_=>((P0_ k_∨P1_ k_)∨w.heap.size≤k_))) ?hr ?hp (fun _ hk=>hk) ((show ∀ k_,w.heap.size≤k_→(fun k_=>((P0_ k_∨P1_ k_)∨w.heap.size≤k_)) k_ from fun k_ hk=>(.inr (Nat.le_trans (below_size bz) hk))) _ (Nat.le_refl _)) (Below.refl _ _) (Nat.le_refl _) (by simp) ?_;(case hd=>rfl);(case hg=>rfl);(case hr=>first|(go_simp;done)|(go_simp;rfl));(case hp=>exact(Reps.none _ _));intro v885 w6 ho7 hb hg_ hnew_;clear hg_ hnew_;(first|rw[← Ny884.out] at ho7|(simp only[Int.reduceToNat] at ho7;rw[← Ny884.out] at ho7));replace HO0:=Aside0.mk (Kd.V_elder' (Kd.Vz HO0.out) (Kd.N_base ho7) hb);replace HO1:=Aside0.mk (Kd.V_elder' (Kd.Vz HO1.out) (Kd.N_base ho7) hb);have HO886:=Aside0.mk (Kd.N_lower ho7 (below_size bz));replace HB:=Aside0.mk (below_step bz hb);clear hb ho7))
  go_loopg [5,15] k (fun kq v5 v15 w'=>∃ (x5_1:List (S61)) (x15_1:Int),v15=.int .i64 x15_1∧Aside0 (impl_times.l0 kq l0 x5_1 l1 (l1.length:Int) x15_1=some r)∧Aside0 (kq≤k)∧Aside0 (Kd.V k61 61 w' w.heap.size (fun k_=>((P0_ k_∨P1_ k_)∨w.heap.size≤k_)∧some k_≠(v5:Value).ownBlock) (.slice A0 l0.length c0) l0)∧Aside0 (Kd.N k61 61 w' w.heap.size (fun k_=>((P0_ k_∨P1_ k_)∨w.heap.size≤k_)) v5 x5_1)∧Aside0 (Kd.V k61 61 w' w.heap.size (fun k_=>((P0_ k_∨P1_ k_)∨w.heap.size≤k_)∧some k_≠(v5:Value).ownBlock) (.slice A1 l1.length c1) l1)∧Aside0 (Below w.heap.size w w'))
  case atStart=>exact⟨(y884),(0),(by first|rfl|(simp;done)|(simp[*];done)),H',⟨Nat.le_refl _⟩,⟨by(with_reducible repeat (first|apply Kd.V_alloc|apply Kd.V_drewN|apply Kd.V_drew));exact HO0.out⟩,⟨by(with_reducible repeat (first|apply Kd.N_alloc|apply Kd.N_drewN|apply Kd.N_drew));exact HO886.out⟩,⟨by(with_reducible repeat (first|apply Kd.V_alloc|apply Kd.V_drewN|apply Kd.V_drew));exact HO1.out⟩,⟨bz⟩⟩
  case round =>
   clear H'
   try clear c1
   try clear p2
   try clear c3
   try clear c3b0
   try clear c3b1
   try clear c3b2
   try clear c5
   obtain⟨x5_1,x15_1,rfl,HA,HK1,HO_0,HO_5,HO_13,HB⟩:=hrel
   cases gk with
   | zero=>exact absurd HA.out (by simp[impl_times.l0])
   | succ k1 =>
    have H:=HA.out
    clear HA
    simp only[impl_times.l0] at H
    by_cases c8:x15_1<(l1.length:Int)
    ·rw[if_pos c8] at H
     have c8b0:decide (x15_1<(l1.length:Int))=true:=decide_eq_true c8
     clear c8
     by_cases c9:0≤x15_1
     ·rw[if_pos c9] at H
      have c9b0:decide (0≤x15_1)=true:=decide_eq_true c9
      clear c9
      by_cases c10:x15_1<(l1.length:Int)
      ·rw[if_pos c10] at H
       have c10b0:decide (x15_1<(l1.length:Int))=true:=decide_eq_true c10
       clear c10
       by_cases c11:(((rd_T61 l1 x15_1).f1).length:Int)>0
       ·rw[if_pos c11] at H
        have c11b0:decide (0<(((rd_T61 l1 x15_1).f1).length:Int))=true:=decide_eq_true c11
        have c11b1:decide (0<((rd_T61 l1 x15_1).f1).length)=true:=decide_eq_true (by omega)
        clear c11
        by_cases c12:0<(l0.length:Int)
        ·rw[if_pos c12] at H
         have c12b0:decide (0<(l0.length:Int))=true:=decide_eq_true c12
         have c12b1:decide (0<l0.length)=true:=decide_eq_true (by omega)
         clear c12
         replace H:=Option.bind_eq_some_iff.mp H
         obtain⟨t890,A130,H⟩:=H
         replace H:(if x5_1.length<4398046511104 then(impl_times.l0 k1 l0 (x5_1++[(⟨(rd_T61 l1 x15_1).f0,t890⟩:S61)]) l1 (l1.length:Int) (wrap64 (x15_1+1))) else(none))=some r:=H
         have A13:=Aside0.mk A130
         clear A130
         by_cases c14:x5_1.length<4398046511104
         ·rw[if_pos c14] at H
          have LMc14:=Aside0.mk c14
          clear c14
          obtain⟨y893,hy893⟩:∃ y_:List (S61),y_=(x5_1++[(⟨(rd_T61 l1 x15_1).f0,t890⟩:S61)]):=⟨_,rfl⟩
          replace H:(impl_times.l0 k1 l0 y893 l1 (l1.length:Int) (wrap64 (x15_1+1)))=some r:=hz hy893 H
          have Ny893:=Aside0.mk hy893
          clear hy893
          have H':=Aside0.mk H
          clear H
          have p887:0≤(x15_1:Int):=dz
          have q887:x15_1<(l1.length:Int):=dz
          obtain⟨ad887,A887_1,c887_1,e887,hx887_0,hx887_1,hl887_1,hi887_1⟩:=at_T61 (Kd.V_reads' HO_13.out).2.2 x15_1 p887 q887
          cases e887
          obtain⟨ce887,hce887,hMe887,hcc887⟩:=Kd.V_get HO_13.out z61 x15_1 p887 (by first|exact q887|exact dz|(have e_:=(Kd.V_reads' HO_13.out).1;omega))
          obtain⟨ua887_1,uc887_1,rfl,ul887_1,ge887_1⟩:=k61_openF hMe887
          have hv887_1:=hcc887 1 _ rfl
          rw[add_field _ _ 1 (by omega)] at hv887_1
          replace hv887_1:=Option.some.inj (hv887_1.symm.trans hx887_1)
          injection hv887_1 with hva_ hvn_ hvc_
          rw[hva_] at ge887_1
          rw[hvc_] at ul887_1
          have HL887_1:=Aside0.mk (show Kd.V k61 61 _ w.heap.size _ _ ((rd_T61 l1 x15_1).f1) from Kd.V_mk ul887_1 ge887_1)
          clear hva_ hvn_ hvc_ ge887_1 ul887_1
          clear hcc887 hce887
          have HR887_1:=Aside0.mk hi887_1
          have HC887_1:=Aside0.mk hl887_1
          clear hi887_1 hl887_1
          replace p887:=eq_true p887
          replace q887:=eq_true q887
          try go_wp2_with (first|((with_reducible refine gate_dst (N:=7) rfl ?_);refine box_event ?hg (N:=7) ?hd (cs:=#[.int .i64 0,.slice none 0 0]) (t:=61) ?hr ?_;(case hd=>rfl);(case hg=>rfl);(case hr=>first|(go_simp;done)|(go_simp;rfl));intro gb888 hg w15 hbox hb;replace HO_0:=Aside0.mk (Kd.V_below (Kd.V_elderB (Kd.Vz HO_0.out) gb888 (Nat.le_of_eq hg.symm)) hb);replace HO_5:=Aside0.mk (Kd.N_below (Kd.N_elderB (Kd.Nz HO_5.out) gb888 (Nat.le_of_eq hg.symm)) hb);replace HO_13:=Aside0.mk (Kd.V_below (Kd.V_elderB (Kd.Vz HO_13.out) gb888 (Nat.le_of_eq hg.symm)) hb);replace HL887_1:=Aside0.mk (Kd.V_below (Kd.V_elderB (Kd.Vz HL887_1.out) gb888 (Nat.le_of_eq hg.symm)) hb);replace HR887_1:=Aside0.mk (Kd.C_below (by repeat (first|(with_reducible exact HR887_1.out)|(with_reducible refine Kd.C_alloc ?_ _)|(with_reducible refine Kd.C_drewN ?_ _)|(with_reducible refine Kd.C_drew ?_)|exact HR887_1.out)) hb);have BK888:=Aside0.mk (hbox);have GW888:=Aside0.mk ((by rw[hg];exact(below_size bz):w.heap.size≤gb888));have GE888:=Aside0.mk ((by rw[hg];exact(below_size bz):w.heap.size≤gb888));replace HB:=Aside0.mk (below_step bz hb);clear hb hbox hg;have hcz16_0:w15.cell? ⟨gb888,0,none⟩=some (.int .i64 0):=(blk_cell BK888.out 0).trans rfl;have hcz16_1:w15.cell? ⟨gb888,1,none⟩=some (.slice none 0 0):=(blk_cell BK888.out 1).trans rfl;have hfz16_0:=blk_frozen BK888.out 0;have hfz16_1:=blk_frozen BK888.out 1))
          have n0_:Aside0 (Kd.V k61 61 ((w15.setCell ⟨gb888,0,none⟩ (.int .i64 ((rd_T61 l1 x15_1).f0))).setCell ⟨gb888,1,none⟩ (.slice A887_1 ((rd_T61 l1 x15_1).f1).length c887_1)) w.heap.size (fun k_=>((P0_ k_∨P1_ k_)∨w.heap.size≤k_)∧some k_≠(u5:Value).ownBlock∧k_≠gb888) (.slice A0 l0.length c0) l0):=⟨Kd.Vz <| Kd.V_mono (Kd.V_far (p:=⟨gb888,1,none⟩) (Kd.V_far (p:=⟨gb888,0,none⟩) (Kd.V_mono HO_0.out (fun k_ hk=>(⟨hk,hk.2⟩:_∧k_≠gb888))) (fun _ hk=>hk.2) (.int .i64 ((rd_T61 l1 x15_1).f0))) (fun _ hk=>hk.2) (.slice A887_1 ((rd_T61 l1 x15_1).f1).length c887_1)) (fun _ hk=>⟨hk.1.1.1,⟨hk.1.1.2,hk.1.2⟩⟩)⟩
          have n1_:Aside0 (Kd.N k61 61 ((w15.setCell ⟨gb888,0,none⟩ (.int .i64 ((rd_T61 l1 x15_1).f0))).setCell ⟨gb888,1,none⟩ (.slice A887_1 ((rd_T61 l1 x15_1).f1).length c887_1)) w.heap.size (fun k_=>((P0_ k_∨P1_ k_)∨w.heap.size≤k_)∧k_≠gb888) u5 x5_1):=⟨Kd.Nz <| Kd.N_mono (Kd.N_far (p:=⟨gb888,1,none⟩) (Kd.N_far (p:=⟨gb888,0,none⟩) (Kd.N_mono HO_5.out (fun k_ hk=>(⟨hk,hk.2⟩:_∧k_≠gb888))) (fun _ hk=>hk.2) (.int .i64 ((rd_T61 l1 x15_1).f0))) (fun _ hk=>hk.2) (.slice A887_1 ((rd_T61 l1 x15_1).f1).length c887_1)) (fun _ hk=>⟨hk.1.1,hk.1.2⟩)⟩
          have n2_:Aside0 (Kd.V k61 61 ((w15.setCell ⟨gb888,0,none⟩ (.int .i64 ((rd_T61 l1 x15_1).f0))).setCell ⟨gb888,1,none⟩ (.slice A887_1 ((rd_T61 l1 x15_1).f1).length c887_1)) w.heap.size (fun k_=>((P0_ k_∨P1_ k_)∨w.heap.size≤k_)∧some k_≠(u5:Value).ownBlock∧k_≠gb888) (.slice (some ad887) l1.length c1) l1):=⟨Kd.Vz <| Kd.V_mono (Kd.V_far (p:=⟨gb888,1,none⟩) (Kd.V_far (p:=⟨gb888,0,none⟩) (Kd.V_mono HO_13.out (fun k_ hk=>(⟨hk,hk.2⟩:_∧k_≠gb888))) (fun _ hk=>hk.2) (.int .i64 ((rd_T61 l1 x15_1).f0))) (fun _ hk=>hk.2) (.slice A887_1 ((rd_T61 l1 x15_1).f1).length c887_1)) (fun _ hk=>⟨hk.1.1.1,⟨hk.1.1.2,hk.1.2⟩⟩)⟩
          have n3_:Aside0 (Kd.V k61 61 ((w15.setCell ⟨gb888,0,none⟩ (.int .i64 ((rd_T61 l1 x15_1).f0))).setCell ⟨gb888,1,none⟩ (.slice A887_1 ((rd_T61 l1 x15_1).f1).length c887_1)) w.heap.size (fun k_=>((P0_ k_∨P1_ k_)∨w.heap.size≤k_)∧some k_≠(u5:Value).ownBlock∧k_≠gb888) (.slice A887_1 ((rd_T61 l1 x15_1).f1).length c887_1) ((rd_T61 l1 x15_1).f1)):=⟨Kd.Vz <| Kd.V_mono (Kd.V_far (p:=⟨gb888,1,none⟩) (Kd.V_far (p:=⟨gb888,0,none⟩) (Kd.V_mono HL887_1.out (fun k_ hk=>(⟨hk,hk.2⟩:_∧k_≠gb888))) (fun _ hk=>hk.2) (.int .i64 ((rd_T61 l1 x15_1).f0))) (fun _ hk=>hk.2) (.slice A887_1 ((rd_T61 l1 x15_1).f1).length c887_1)) (fun _ hk=>⟨hk.1.1.1,⟨hk.1.1.2,hk.1.2⟩⟩)⟩
          have n4_:Aside0 (((w15.setCell ⟨gb888,0,none⟩ (.int .i64 ((rd_T61 l1 x15_1).f0))).setCell ⟨gb888,1,none⟩ (.slice A887_1 ((rd_T61 l1 x15_1).f1).length c887_1)).heap[gb888]?=some (.cells #[.int .i64 ((rd_T61 l1 x15_1).f0),.slice A887_1 ((rd_T61 l1 x15_1).f1).length c887_1] 61 (0,0))):=⟨by(with_reducible repeat (first|refine blk_drewN ?_ _|refine blk_drew ?_|refine blk_alloc ?_ _));refine blk_put (cs:=#[.int .i64 ((rd_T61 l1 x15_1).f0),.slice none 0 0]) ?_ 1 _ rfl;(with_reducible repeat (first|refine blk_drewN ?_ _|refine blk_drew ?_|refine blk_alloc ?_ _));refine blk_put (cs:=#[.int .i64 0,.slice none 0 0]) ?_ 0 _ rfl;(with_reducible repeat (first|refine blk_drewN ?_ _|refine blk_drew ?_|refine blk_alloc ?_ _));exact BK888.out⟩
          have n5_:Aside0 (Below w.heap.size w ((w15.setCell ⟨gb888,0,none⟩ (.int .i64 ((rd_T61 l1 x15_1).f0))).setCell ⟨gb888,1,none⟩ (.slice A887_1 ((rd_T61 l1 x15_1).f1).length c887_1))):=⟨by repeat (first|(with_reducible first|exact HB.out|apply below_alloc|apply pw_below_drewN|apply below_drew1|refine below_set ?_ GE888.out)|exact HB.out)⟩
          (try clear HO_0)
          (try clear HO_5)
          (try clear HO_13)
          (try clear HL887_1)
          (try clear BK888)
          (try clear HB)
          generalize ((w15.setCell ⟨gb888,0,none⟩ (.int .i64 ((rd_T61 l1 x15_1).f0))).setCell ⟨gb888,1,none⟩ (.slice A887_1 ((rd_T61 l1 x15_1).f1).length c887_1))=w17 at n0_ n1_ n2_ n3_ n4_ n5_ ⊢
          have HO_0:=n0_
          have HO_5:=n1_
          have HO_13:=n2_
          have HL887_1:=n3_
          have BK888:=n4_
          have HB:=n5_
          clear n0_ n1_ n2_ n3_ n4_ n5_
          have n0_:=Aside0.mk (Kd.V_drew HO_0.out)
          have n1_:=Aside0.mk (Kd.N_drew HO_5.out)
          have n2_:=Aside0.mk (Kd.V_drew HO_13.out)
          have n3_:=Aside0.mk (Kd.V_drew HL887_1.out)
          have n4_:=Aside0.mk (blk_drew BK888.out)
          have n5_:=Aside0.mk (below_drew1 HB.out)
          clear HO_0
          clear HO_5
          clear HO_13
          clear HL887_1
          clear BK888
          clear HB
          have HO_0:=n0_
          have HO_5:=n1_
          have HO_13:=n2_
          have HL887_1:=n3_
          have BK888:=n4_
          have HB:=n5_
          clear n0_ n1_ n2_ n3_ n4_ n5_
          have p889:0≤(0:Int):=(by omega)
          have q889:0<(l0.length:Int):=dz
          obtain⟨ad889,A889_1,c889_1,e889,hx889_0,hx889_1,hl889_1,hi889_1⟩:=at_T61 (Kd.V_reads' HO_0.out).2.2 0 p889 q889
          cases e889
          obtain⟨ce889,hce889,hMe889,hcc889⟩:=Kd.V_get HO_0.out z61 0 p889 (by first|exact q889|exact dz|(have e_:=(Kd.V_reads' HO_0.out).1;omega))
          obtain⟨ua889_1,uc889_1,rfl,ul889_1,ge889_1⟩:=k61_openF hMe889
          have hv889_1:=hcc889 1 _ rfl
          rw[add_field _ _ 1 (by omega)] at hv889_1
          replace hv889_1:=Option.some.inj (hv889_1.symm.trans hx889_1)
          injection hv889_1 with hva_ hvn_ hvc_
          rw[hva_] at ge889_1
          rw[hvc_] at ul889_1
          have HL889_1:=Aside0.mk (show Kd.V k61 61 _ w.heap.size _ _ ((rd_T61 l0 0).f1) from Kd.V_mk ul889_1 ge889_1)
          clear hva_ hvn_ hvc_ ge889_1 ul889_1
          clear hcc889 hce889
          have qi889:(0<l0.length)=True:=eq_true (by omega)
          (try rw[show ((0:Int)).toNat=0 from rfl] at hx889_0)
          (try rw[show 0*2=0 from rfl] at hx889_0)
          (try rw[Addr.add_zero'] at hx889_0)
          (try rw[show ((0:Int)).toNat=0 from rfl] at hx889_1)
          (try rw[show 0*2=0 from rfl] at hx889_1)
          (try rw[Addr.add_zero'] at hx889_1)
          have HR889_1:=Aside0.mk hi889_1
          have HC889_1:=Aside0.mk hl889_1
          clear hi889_1 hl889_1
          replace p889:=eq_true p889
          replace q889:=eq_true q889
          refine start_ (n:=14) (S:=fun w'=>w'.cell? ⟨gb888,0,none⟩=some (.int .i64 ((rd_T61 l1 x15_1).f0))∧w'.cell? ⟨gb888,1,none⟩=some (.slice A887_1 ((rd_T61 l1 x15_1).f1).length c887_1)∧w'.cell? ad889=some (.int .i64 ((rd_T61 l0 0).f0))∧w'.cell? ⟨ad889.block,ad889.off+1,none⟩=some (.slice A889_1 ((rd_T61 l0 0).f1).length c889_1)) (ds:=[11,12]) #[F,F,F,F,F,F,F,F,F,F,F,F,F,F] (by kernel_rfl) rfl rfl ⟨(blk_cell BK888.out 0).trans rfl,(blk_cell BK888.out 1).trans rfl,hx889_0,hx889_1⟩ (fun hHeld=>?_);refine with_tabW impl_times.tab8 impl_times.bits8 (fun HT_ HW_=>?_)
          generalize w17.drew=w18 at HO_0 HO_5 HO_13 HL887_1 BK888 HB HL889_1 HR889_1 hx889_0 hx889_1 hHeld ⊢
          refine pq 0 (some 23) ?_ HT_.out rfl rfl (Or.inl ⟨by rfl,?_⟩) ?_ ?_ ?_
          rotate_left;(· intro w';go_simp;with_reducible rfl);rotate_left;(· simp only[Act.put,s1,s2,s3,i64_w,i32_w];rfl)
          refine pq 1 (some 24) ?_ HT_.out rfl rfl (Or.inl ⟨by rfl,?_⟩) ?_ ?_ ?_
          rotate_left;(· intro w';go_simp;with_reducible rfl);rotate_left;(· simp only[Act.put,s1,s2,s3,i64_w,i32_w];rfl)
          refine pq 3 (some 26) ?_ HT_.out rfl rfl (Or.inl ⟨by rfl,?_⟩) ?_ ?_ ?_
          rotate_left;(· intro w';go_simp;with_reducible rfl);rotate_left;(· simp only[Act.put,s1,s2,s3,i64_w,i32_w];rfl)
          refine pq 4 (some 27) ?_ HT_.out rfl rfl (Or.inl ⟨by rfl,?_⟩) ?_ ?_ ?_
          rotate_left;(· intro w';go_simp;with_reducible rfl);rotate_left;(· simp only[Act.put,s1,s2,s3,i64_w,i32_w];rfl)
          refine pq 5 (some 28) ?_ HT_.out rfl rfl (Or.inl ⟨by rfl,?_⟩) ?_ ?_ ?_
          rotate_left;(· intro w';go_simp;with_reducible rfl);rotate_left;(· simp only[Act.put,s1,s2,s3,i64_w,i32_w];rfl)
          refine pq 7 (some 30) ?_ HT_.out rfl rfl (Or.inl ⟨by rfl,?_⟩) ?_ ?_ ?_
          rotate_left;(· intro w';go_simp;with_reducible rfl);rotate_left;(· simp only[Act.put,s1,s2,s3,i64_w,i32_w];rfl)
          refine take_ (i:=2) (N:=some 25) (v:=?_) (a':=?_) #[T,T,T,T,T,T,F,T,F,F,F,F,F,F] rfl rfl (take_ofW HT_.out HW_.out (by kernel_rfl)) (fun _ _ _ h=>h) (Or.inl ⟨by rfl,?_⟩) hHeld ?_ ?_
          rotate_left;(· rintro w' ⟨s0,s1,s2,s3⟩;go_simp;with_reducible rfl);rotate_left;(· simp only[Act.put,s1,s2,s3,i64_w,i32_w];rfl)
          refine take_ (i:=6) (N:=some 29) (v:=?_) (a':=?_) #[T,T,T,T,T,T,T,T,F,F,F,F,F,F] rfl rfl (take_ofW HT_.out HW_.out (by kernel_rfl)) (fun _ _ _ h=>h) (Or.inl ⟨by rfl,?_⟩) hHeld ?_ ?_
          rotate_left;(· rintro w' ⟨s0,s1,s2,s3⟩;go_simp;with_reducible rfl);rotate_left;(· simp only[Act.put,s1,s2,s3,i64_w,i32_w];rfl)
          refine take_ (i:=8) (N:=some 31) (v:=?_) (a':=?_) #[T,T,T,T,T,T,T,T,T,F,F,F,F,F] rfl rfl (take_ofW HT_.out HW_.out (by kernel_rfl)) (fun _ _ _ h=>h) (Or.inl ⟨by rfl,?_⟩) hHeld ?_ ?_
          rotate_left;(· rintro w' ⟨s0,s1,s2,s3⟩;go_simp;with_reducible rfl);rotate_left;(· simp only[Act.put,s1,s2,s3,i64_w,i32_w];rfl)
          refine one_ (i:=9) (N:=some 32) #[T,T,T,T,T,T,T,T,T,T,F,F,F,F] rfl rfl (one_of HT_.out (by kernel_rfl)) (by decide) (fun K hK=>?_)
          refine goes_ Try.func47 (by kernel_rfl) rfl #[.slice A889_1 ((rd_T61 l0 0).f1).length c889_1,.slice A887_1 ((rd_T61 l1 x15_1).f1).length c887_1] (by rfl) rfl rfl az ?_
          with_reducible refine(impl_add.calls k1 (fun k_=>(((P0_ k_∨P1_ k_)∨w.heap.size≤k_)∧(some k_≠(u5:Value).ownBlock∧k_≠gb888))) _ _ ((rd_T61 l0 0).f1) (fun k_=>(((P0_ k_∨P1_ k_)∨w.heap.size≤k_)∧(some k_≠(u5:Value).ownBlock∧k_≠gb888))) _ _ ((rd_T61 l1 x15_1).f1) t890 _ ?side1 ?side2 A13.out).mono ?_
          (case side1=>exact HL889_1.out)
          (case side2=>exact HL887_1.out)
          rintro e w19 ⟨v891,rfl,ho0,hb⟩
          have HS2_:=(hb.cell (World.block_lt_of_cell? _ _ (hHeld.2.2.1))).trans (hHeld.2.2.1)
          have HS3_:=(hb.cell (World.block_lt_of_cell? _ _ (hHeld.2.2.2))).trans (hHeld.2.2.2)
          refine⟨_,rfl,?_⟩
          have n0_:=Aside0.mk (Kd.V_below (Kd.Vz HO_0.out) hb)
          have n1_:=Aside0.mk (Kd.N_below (Kd.Nz HO_5.out) hb)
          have n2_:=Aside0.mk (Kd.V_below (Kd.Vz HO_13.out) hb)
          have n3_:=Aside0.mk (Kd.V_below (Kd.Vz HL887_1.out) hb)
          have n4_:=Aside0.mk (Kd.V_below (Kd.Vz HL889_1.out) hb)
          have n5_:=Aside0.mk (Kd.V_lower (Kd.V_mono (ok':=fun k_=>((P0_ k_∨P1_ k_)∨w.heap.size≤k_)∧some k_≠(u5:Value).ownBlock∧k_≠gb888) ho0 (fun k_ hk_=>⟨Or.elim hk_ (fun hs_=>Or.elim hs_ (fun hs_=>hs_.1) (fun hs_=>hs_.1)) (fun hn_=>(.inr (Nat.le_trans (below_size (by repeat (first|(with_reducible first|exact HB.out|apply below_alloc|apply pw_below_drewN|apply below_drew1|refine below_set ?_ GE888.out)|exact HB.out))) hn_))),Or.elim hk_ (fun hs_=>Or.elim hs_ (fun hs_=>hs_.2.1) (fun hs_=>hs_.2.1)) (fun hn_=>(Kd.fresh' (Kd.N_lt (Kd.Nz HO_5.out)) k_ hn_)),Or.elim hk_ (fun hs_=>Or.elim hs_ (fun hs_=>hs_.2.2) (fun hs_=>hs_.2.2)) (fun hn_=>(Kd.freshB (g:=gb888) (o:=.cells #[.int .i64 ((rd_T61 l1 x15_1).f0),.slice A887_1 ((rd_T61 l1 x15_1).f1).length c887_1] 61 (0,0)) (by(with_reducible repeat (first|refine blk_drewN ?_ _|refine blk_drew ?_|refine blk_alloc ?_ _));exact BK888.out) k_ hn_))⟩)) (below_size (by repeat (first|(with_reducible first|exact HB.out|apply below_alloc|apply pw_below_drewN|apply below_drew1|refine below_set ?_ GE888.out)|exact HB.out))))
          have n6_:=Aside0.mk (blk_below (g:=gb888) (o:=.cells #[.int .i64 ((rd_T61 l1 x15_1).f0),.slice A887_1 ((rd_T61 l1 x15_1).f1).length c887_1] 61 (0,0)) (by(with_reducible repeat (first|refine blk_drewN ?_ _|refine blk_drew ?_|refine blk_alloc ?_ _));exact BK888.out) hb)
          have n7_:=Aside0.mk (Kd.C_below (by repeat (first|(with_reducible exact HR889_1.out)|(with_reducible refine Kd.C_alloc ?_ _)|(with_reducible refine Kd.C_drewN ?_ _)|(with_reducible refine Kd.C_drew ?_)|exact HR889_1.out)) hb)
          have n8_:=Aside0.mk (below_step (by repeat (first|(with_reducible first|exact HB.out|apply below_alloc|apply pw_below_drewN|apply below_drew1|refine below_set ?_ GE888.out)|exact HB.out)) hb)
          clear HO_0
          clear HO_5
          clear HO_13
          clear HL887_1
          clear HL889_1
          clear BK888
          clear HR889_1
          clear HB
          have HO_0:=n0_
          have HO_5:=n1_
          have HO_13:=n2_
          have HL887_1:=n3_
          have HL889_1:=n4_
          have HO892:=n5_
          have BK888:=n6_
          have HR889_1:=n7_
          have HB:=n8_
          clear n0_ n1_ n2_ n3_ n4_ n5_ n6_ n7_ n8_
          (try clear hb)
          (try clear hb2)
          (try clear hk)
          (try clear hi)
          (try clear ho0)
          obtain⟨Ao20,co20,eo20⟩:=Kd.V_slice HO892.out
          (first|subst eo20|(injection eo20 with f1_ f2_ f3_;have f4_:=f1_.symm;have f5_:=f3_.symm;clear f1_ f2_ f3_;subst f4_;subst f5_))
          refine hK.out _ _ ⟨(blk_cell BK888.out 0).trans rfl,(blk_cell BK888.out 1).trans rfl,HS2_,HS3_⟩ (fun hHeld=>?_)
          clear hK K
          refine norm_ (a':=?_) ?_ ?_
          rotate_left
          ·show Act.put _ (some 32) _=_
           simp only[Act.put,s1,s2,s3,i64_w,i32_w]
           rfl
          refine pq 10 (some 33) ?_ HT_.out rfl rfl (Or.inl ⟨by rfl,?_⟩) ?_ ?_ ?_
          rotate_left;(· intro w';go_simp;with_reducible rfl);rotate_left;(· simp only[Act.put,s1,s2,s3,i64_w,i32_w];rfl)
          refine last_ (i:=11) (N:=some 34) #[T,T,T,T,T,T,T,T,T,T,T,T,F,F] rfl rfl (one_of HT_.out (by kernel_rfl)) (by decide) (fun K hK=>?_)
          refine value_ (w1:=?_) (v:=?_) (by rfl) rfl ?_ ?_
          rotate_left 2
          ·go_simp
           constructor
           ·rfl
           ·rfl
          refine hK.out _ _ ?_
          clear hK K
          refine norm_ (a':=?_) ?_ ?_
          rotate_left
          ·show Act.put _ (some 34) _=_
           simp only[Act.put,s1,s2,s3,i64_w,i32_w]
           rfl
          refine last_ (i:=12) (N:=some 35) #[T,T,T,T,T,T,T,T,T,T,T,T,T,F] rfl rfl (one_of HT_.out (by kernel_rfl)) (by decide) (fun K hK=>?_)
          refine Kd.N_append_step k61 (w0:=w) w.heap.size (by rfl) (.tmp 23) (.tmp 34) 46 61 (.agg #[(.int .i64 0),(.slice none 0 0)]) 32 rfl Try.underlying46 info61 rfl (by decide) (by omega) u5 x5_1 (⟨(rd_T61 l1 x15_1).f0,t890⟩:S61) [.int .i64 ((rd_T61 l1 x15_1).f0),.slice Ao20 t890.length co20] (fun k_=>((P0_ k_∨P1_ k_)∨w.heap.size≤k_)∧k_≠gb888) (fun k_=>((fun k_=>((P0_ k_∨P1_ k_)∨w.heap.size≤k_)∧k_≠gb888)) k_∧some k_≠(u5:Value).ownBlock) rfl rfl ?aP (fun _ hk=>hk) ?aF ?aO ?aB ?aS ?aL ?_
          (case aP=>exact(k61_mkF _ _ (⟨(rd_T61 l1 x15_1).f0,t890⟩:S61) (Kd.V_reads' (Kd.V_mono (ok':=(fun k_=>((fun k_=>((P0_ k_∨P1_ k_)∨w.heap.size≤k_)∧k_≠gb888)) k_∧some k_≠(u5:Value).ownBlock)) (HO892.out) (fun k_ hk=>⟨⟨hk.1,hk.2.2⟩,hk.2.1⟩))).2.1 (Kd.V_F (Kd.V_mono (ok':=(fun k_=>((fun k_=>((P0_ k_∨P1_ k_)∨w.heap.size≤k_)∧k_≠gb888)) k_∧some k_≠(u5:Value).ownBlock)) (HO892.out) (fun k_ hk=>⟨⟨hk.1,hk.2.2⟩,hk.2.1⟩)))))
          (case aB=>exact(by repeat (first|(with_reducible first|exact HB.out|apply below_alloc|apply pw_below_drewN|apply below_drew1|refine below_set ?_ GE888.out)|exact HB.out)))
          (case aF=>exact(fun k_ hk=>⟨(.inr (Nat.le_trans (below_size (by repeat (first|(with_reducible first|exact HB.out|apply below_alloc|apply pw_below_drewN|apply below_drew1|refine below_set ?_ GE888.out)|exact HB.out))) hk)),Kd.freshB (g:=gb888) (o:=.cells #[.int .i64 ((rd_T61 l1 x15_1).f0),.slice A887_1 ((rd_T61 l1 x15_1).f1).length c887_1] 61 (0,0)) (by(with_reducible repeat (first|refine blk_drewN ?_ _|refine blk_drew ?_|refine blk_alloc ?_ _));exact BK888.out) k_ hk⟩))
          (case aO=>exact(Kd.Nz HO_5.out))
          (case aS=>exact(below_size (by repeat (first|(with_reducible first|exact HB.out|apply below_alloc|apply pw_below_drewN|apply below_drew1|refine below_set ?_ GE888.out)|exact HB.out))))
          (case aL=>have:=LMc14.out;omega)
          intro v894 w21 ho hb hg hat
          rw[← Ny893.out] at ho
          have n0_:=Aside0.mk (Kd.V_afterv (ok:=(fun k_=>((P0_ k_∨P1_ k_)∨w.heap.size≤k_)∧k_≠gb888)) (Kd.Vz <| Kd.V_mono HO_0.out (fun _ hk=>⟨⟨hk.1,hk.2.2⟩,hk.2.1⟩)) hg hat)
          have n1_:=Aside0.mk (Kd.V_afterv (ok:=(fun k_=>((P0_ k_∨P1_ k_)∨w.heap.size≤k_)∧k_≠gb888)) (Kd.Vz <| Kd.V_mono HO_13.out (fun _ hk=>⟨⟨hk.1,hk.2.2⟩,hk.2.1⟩)) hg hat)
          have n2_:=Aside0.mk (Kd.V_afterv (ok:=(fun k_=>((P0_ k_∨P1_ k_)∨w.heap.size≤k_)∧k_≠gb888)) (Kd.Vz <| Kd.V_mono HL887_1.out (fun _ hk=>⟨⟨hk.1,hk.2.2⟩,hk.2.1⟩)) hg hat)
          have n3_:=Aside0.mk (blk_grown (g:=gb888) (o:=.cells #[.int .i64 ((rd_T61 l1 x15_1).f0),.slice A887_1 ((rd_T61 l1 x15_1).f1).length c887_1] 61 (0,0)) (by(with_reducible repeat (first|refine blk_drewN ?_ _|refine blk_drew ?_|refine blk_alloc ?_ _));exact BK888.out) hg (Kd.N_away HO_5.out (fun _ hk=>hk.2)))
          have n4_:=Aside0.mk (Kd.V_afterv (ok:=(fun k_=>((P0_ k_∨P1_ k_)∨w.heap.size≤k_)∧k_≠gb888)) (Kd.Vz <| Kd.V_mono HL889_1.out (fun _ hk=>⟨⟨hk.1,hk.2.2⟩,hk.2.1⟩)) hg hat)
          have n5_:=Aside0.mk (Kd.V_afterv (ok:=(fun k_=>((P0_ k_∨P1_ k_)∨w.heap.size≤k_)∧k_≠gb888)) (Kd.Vz <| Kd.V_mono HO892.out (fun _ hk=>⟨⟨hk.1,hk.2.2⟩,hk.2.1⟩)) hg hat)
          have n6_:=Aside0.mk (hb)
          have n7_:=Aside0.mk (ho)
          clear HO_0
          clear HO_13
          clear HL887_1
          clear BK888
          clear HL889_1
          clear HO892
          clear HB
          clear HO_5
          have HO_0:=n0_
          have HO_13:=n1_
          have HL887_1:=n2_
          have BK888:=n3_
          have HL889_1:=n4_
          have HO892:=n5_
          have HB:=n6_
          have HO895:=n7_
          clear n0_ n1_ n2_ n3_ n4_ n5_ n6_ n7_
          clear ho hb hg hat
          refine hK.out _ _ ?_
          clear hK K
          refine norm_ (a':=?_) ?_ ?_
          rotate_left
          ·show Act.put _ (some 35) _=_
           simp only[Act.put,s1,s2,s3,i64_w,i32_w]
           rfl
          refine pq 13 (some 5) ?_ HT_.out rfl rfl (Or.inl ⟨by rfl,?_⟩) ?_ ?_ ?_
          rotate_left;(· intro w';go_simp;with_reducible rfl);rotate_left;(· simp only[Act.put,s1,s2,s3,i64_w,i32_w];rfl)
          refine done_ (done_of HT_.out (by kernel_rfl)) ?_
          try go_wp2
          go_roundg k1
          case measure=>have:=HK1.out;omega
          case rel=>exact⟨(y893),(wrap64 (x15_1+1)),(by first|rfl|(simp;done)|(simp[*];done)),H',⟨by have:=HK1.out;omega⟩,⟨Kd.Vz <| Kd.V_mono HO_0.out (fun _ hk=>⟨hk.1.1,hk.2⟩)⟩,⟨Kd.Nz <| Kd.N_mono HO895.out (fun _ hk=>hk.1)⟩,⟨Kd.Vz <| Kd.V_mono HO_13.out (fun _ hk=>⟨hk.1.1,hk.2⟩)⟩,⟨by repeat (first|(with_reducible first|exact HB.out|apply below_alloc|apply pw_below_drewN|apply below_drew1|refine below_set ?_ GE888.out)|exact HB.out)⟩⟩
         ·rw[if_neg c14] at H
          exact absurd H (by simp)
        ·rw[if_neg c12] at H
         exact absurd H (by simp)
       ·rw[if_neg c11] at H
        have c11b0:decide (0<(((rd_T61 l1 x15_1).f1).length:Int))=false:=decide_eq_false c11
        have c11b1:decide (0<((rd_T61 l1 x15_1).f1).length)=false:=decide_eq_false (by omega)
        clear c11
        by_cases c22:0<(l0.length:Int)
        ·rw[if_pos c22] at H
         have c22b0:decide (0<(l0.length:Int))=true:=decide_eq_true c22
         have c22b1:decide (0<l0.length)=true:=decide_eq_true (by omega)
         clear c22
         by_cases c23:x5_1.length<4398046511104
         ·rw[if_pos c23] at H
          have LMc23:=Aside0.mk c23
          clear c23
          obtain⟨y898,hy898⟩:∃ y_:List (S61),y_=(x5_1++[(⟨wrap64 (((rd_T61 l0 0).f0)*((rd_T61 l1 x15_1).f0)),(rd_T61 l0 0).f1⟩:S61)]):=⟨_,rfl⟩
          replace H:(if 1≤(l0.length:Int) then((some (l0.drop 1:List (S61))).bind fun y901=>(if y898.length+y901.length<4398046511104 then(impl_times.l0 k1 l0 (y898++y901) l1 (l1.length:Int) (wrap64 (x15_1+1))) else(none))) else(none))=some r:=hz hy898 H
          have Ny898:=Aside0.mk hy898
          clear hy898
          by_cases c24:1≤(l0.length:Int)
          ·rw[if_pos c24] at H
           have c24b0:=eq_true c24
           have c24b1:decide (1≤(l0.length:Int))=true:=decide_eq_true c24
           clear c24
           obtain⟨y901,hy901⟩:∃ y_:List (S61),y_=(l0.drop 1):=⟨_,rfl⟩
           replace H:(if y898.length+y901.length<4398046511104 then(impl_times.l0 k1 l0 (y898++y901) l1 (l1.length:Int) (wrap64 (x15_1+1))) else(none))=some r:=hz hy901 H
           have Ny901:=Aside0.mk hy901
           clear hy901
           by_cases c25:y898.length+y901.length<4398046511104
           ·rw[if_pos c25] at H
            have LMc25:=Aside0.mk c25
            clear c25
            obtain⟨y906,hy906⟩:∃ y_:List (S61),y_=(y898++y901):=⟨_,rfl⟩
            replace H:(impl_times.l0 k1 l0 y906 l1 (l1.length:Int) (wrap64 (x15_1+1)))=some r:=hz hy906 H
            have Ny906:=Aside0.mk hy906
            clear hy906
            have H':=Aside0.mk H
            clear H
            have p887:0≤(x15_1:Int):=dz
            have q887:x15_1<(l1.length:Int):=dz
            obtain⟨ad887,A887_1,c887_1,e887,hx887_0,hx887_1,hl887_1,hi887_1⟩:=at_T61 (Kd.V_reads' HO_13.out).2.2 x15_1 p887 q887
            cases e887
            obtain⟨ce887,hce887,hMe887,hcc887⟩:=Kd.V_get HO_13.out z61 x15_1 p887 (by first|exact q887|exact dz|(have e_:=(Kd.V_reads' HO_13.out).1;omega))
            obtain⟨ua887_1,uc887_1,rfl,ul887_1,ge887_1⟩:=k61_openF hMe887
            have hv887_1:=hcc887 1 _ rfl
            rw[add_field _ _ 1 (by omega)] at hv887_1
            replace hv887_1:=Option.some.inj (hv887_1.symm.trans hx887_1)
            injection hv887_1 with hva_ hvn_ hvc_
            rw[hva_] at ge887_1
            rw[hvc_] at ul887_1
            have HL887_1:=Aside0.mk (show Kd.V k61 61 _ w.heap.size _ _ ((rd_T61 l1 x15_1).f1) from Kd.V_mk ul887_1 ge887_1)
            clear hva_ hvn_ hvc_ ge887_1 ul887_1
            clear hcc887 hce887
            have HR887_1:=Aside0.mk hi887_1
            have HC887_1:=Aside0.mk hl887_1
            clear hi887_1 hl887_1
            replace p887:=eq_true p887
            replace q887:=eq_true q887
            try go_wp2_with (first|((with_reducible refine gate_dst (N:=7) rfl ?_);refine box_event ?hg (N:=7) ?hd (cs:=#[.int .i64 0,.slice none 0 0]) (t:=61) ?hr ?_;(case hd=>rfl);(case hg=>rfl);(case hr=>first|(go_simp;done)|(go_simp;rfl));intro gb888 hg w26 hbox hb;replace HO_0:=Aside0.mk (Kd.V_below (Kd.V_elderB (Kd.Vz HO_0.out) gb888 (Nat.le_of_eq hg.symm)) hb);replace HO_5:=Aside0.mk (Kd.N_below (Kd.N_elderB (Kd.Nz HO_5.out) gb888 (Nat.le_of_eq hg.symm)) hb);replace HO_13:=Aside0.mk (Kd.V_below (Kd.V_elderB (Kd.Vz HO_13.out) gb888 (Nat.le_of_eq hg.symm)) hb);replace HL887_1:=Aside0.mk (Kd.V_below (Kd.V_elderB (Kd.Vz HL887_1.out) gb888 (Nat.le_of_eq hg.symm)) hb);replace HR887_1:=Aside0.mk (Kd.C_below (by repeat (first|(with_reducible exact HR887_1.out)|(with_reducible refine Kd.C_alloc ?_ _)|(with_reducible refine Kd.C_drewN ?_ _)|(with_reducible refine Kd.C_drew ?_)|exact HR887_1.out)) hb);have BK888:=Aside0.mk (hbox);have GW888:=Aside0.mk ((by rw[hg];exact(below_size bz):w.heap.size≤gb888));have GE888:=Aside0.mk ((by rw[hg];exact(below_size bz):w.heap.size≤gb888));replace HB:=Aside0.mk (below_step bz hb);clear hb hbox hg;have hcz27_0:w26.cell? ⟨gb888,0,none⟩=some (.int .i64 0):=(blk_cell BK888.out 0).trans rfl;have hcz27_1:w26.cell? ⟨gb888,1,none⟩=some (.slice none 0 0):=(blk_cell BK888.out 1).trans rfl;have hfz27_0:=blk_frozen BK888.out 0;have hfz27_1:=blk_frozen BK888.out 1))
            have n0_:Aside0 (Kd.V k61 61 ((w26.setCell ⟨gb888,0,none⟩ (.int .i64 ((rd_T61 l1 x15_1).f0))).setCell ⟨gb888,1,none⟩ (.slice A887_1 ((rd_T61 l1 x15_1).f1).length c887_1)) w.heap.size (fun k_=>((P0_ k_∨P1_ k_)∨w.heap.size≤k_)∧some k_≠(u5:Value).ownBlock∧k_≠gb888) (.slice A0 l0.length c0) l0):=⟨Kd.Vz <| Kd.V_mono (Kd.V_far (p:=⟨gb888,1,none⟩) (Kd.V_far (p:=⟨gb888,0,none⟩) (Kd.V_mono HO_0.out (fun k_ hk=>(⟨hk,hk.2⟩:_∧k_≠gb888))) (fun _ hk=>hk.2) (.int .i64 ((rd_T61 l1 x15_1).f0))) (fun _ hk=>hk.2) (.slice A887_1 ((rd_T61 l1 x15_1).f1).length c887_1)) (fun _ hk=>⟨hk.1.1.1,⟨hk.1.1.2,hk.1.2⟩⟩)⟩
            have n1_:Aside0 (Kd.N k61 61 ((w26.setCell ⟨gb888,0,none⟩ (.int .i64 ((rd_T61 l1 x15_1).f0))).setCell ⟨gb888,1,none⟩ (.slice A887_1 ((rd_T61 l1 x15_1).f1).length c887_1)) w.heap.size (fun k_=>((P0_ k_∨P1_ k_)∨w.heap.size≤k_)∧k_≠gb888) u5 x5_1):=⟨Kd.Nz <| Kd.N_mono (Kd.N_far (p:=⟨gb888,1,none⟩) (Kd.N_far (p:=⟨gb888,0,none⟩) (Kd.N_mono HO_5.out (fun k_ hk=>(⟨hk,hk.2⟩:_∧k_≠gb888))) (fun _ hk=>hk.2) (.int .i64 ((rd_T61 l1 x15_1).f0))) (fun _ hk=>hk.2) (.slice A887_1 ((rd_T61 l1 x15_1).f1).length c887_1)) (fun _ hk=>⟨hk.1.1,hk.1.2⟩)⟩
            have n2_:Aside0 (Kd.V k61 61 ((w26.setCell ⟨gb888,0,none⟩ (.int .i64 ((rd_T61 l1 x15_1).f0))).setCell ⟨gb888,1,none⟩ (.slice A887_1 ((rd_T61 l1 x15_1).f1).length c887_1)) w.heap.size (fun k_=>((P0_ k_∨P1_ k_)∨w.heap.size≤k_)∧some k_≠(u5:Value).ownBlock∧k_≠gb888) (.slice (some ad887) l1.length c1) l1):=⟨Kd.Vz <| Kd.V_mono (Kd.V_far (p:=⟨gb888,1,none⟩) (Kd.V_far (p:=⟨gb888,0,none⟩) (Kd.V_mono HO_13.out (fun k_ hk=>(⟨hk,hk.2⟩:_∧k_≠gb888))) (fun _ hk=>hk.2) (.int .i64 ((rd_T61 l1 x15_1).f0))) (fun _ hk=>hk.2) (.slice A887_1 ((rd_T61 l1 x15_1).f1).length c887_1)) (fun _ hk=>⟨hk.1.1.1,⟨hk.1.1.2,hk.1.2⟩⟩)⟩
            have n3_:Aside0 (Kd.V k61 61 ((w26.setCell ⟨gb888,0,none⟩ (.int .i64 ((rd_T61 l1 x15_1).f0))).setCell ⟨gb888,1,none⟩ (.slice A887_1 ((rd_T61 l1 x15_1).f1).length c887_1)) w.heap.size (fun k_=>((P0_ k_∨P1_ k_)∨w.heap.size≤k_)∧some k_≠(u5:Value).ownBlock∧k_≠gb888) (.slice A887_1 ((rd_T61 l1 x15_1).f1).length c887_1) ((rd_T61 l1 x15_1).f1)):=⟨Kd.Vz <| Kd.V_mono (Kd.V_far (p:=⟨gb888,1,none⟩) (Kd.V_far (p:=⟨gb888,0,none⟩) (Kd.V_mono HL887_1.out (fun k_ hk=>(⟨hk,hk.2⟩:_∧k_≠gb888))) (fun _ hk=>hk.2) (.int .i64 ((rd_T61 l1 x15_1).f0))) (fun _ hk=>hk.2) (.slice A887_1 ((rd_T61 l1 x15_1).f1).length c887_1)) (fun _ hk=>⟨hk.1.1.1,⟨hk.1.1.2,hk.1.2⟩⟩)⟩
            have n4_:Aside0 (((w26.setCell ⟨gb888,0,none⟩ (.int .i64 ((rd_T61 l1 x15_1).f0))).setCell ⟨gb888,1,none⟩ (.slice A887_1 ((rd_T61 l1 x15_1).f1).length c887_1)).heap[gb888]?=some (.cells #[.int .i64 ((rd_T61 l1 x15_1).f0),.slice A887_1 ((rd_T61 l1 x15_1).f1).length c887_1] 61 (0,0))):=⟨by(with_reducible repeat (first|refine blk_drewN ?_ _|refine blk_drew ?_|refine blk_alloc ?_ _));refine blk_put (cs:=#[.int .i64 ((rd_T61 l1 x15_1).f0),.slice none 0 0]) ?_ 1 _ rfl;(with_reducible repeat (first|refine blk_drewN ?_ _|refine blk_drew ?_|refine blk_alloc ?_ _));refine blk_put (cs:=#[.int .i64 0,.slice none 0 0]) ?_ 0 _ rfl;(with_reducible repeat (first|refine blk_drewN ?_ _|refine blk_drew ?_|refine blk_alloc ?_ _));exact BK888.out⟩
            have n5_:Aside0 (Below w.heap.size w ((w26.setCell ⟨gb888,0,none⟩ (.int .i64 ((rd_T61 l1 x15_1).f0))).setCell ⟨gb888,1,none⟩ (.slice A887_1 ((rd_T61 l1 x15_1).f1).length c887_1))):=⟨by repeat (first|(with_reducible first|exact HB.out|apply below_alloc|apply pw_below_drewN|apply below_drew1|refine below_set ?_ GE888.out)|exact HB.out)⟩
            (try clear HO_0)
            (try clear HO_5)
            (try clear HO_13)
            (try clear HL887_1)
            (try clear BK888)
            (try clear HB)
            generalize ((w26.setCell ⟨gb888,0,none⟩ (.int .i64 ((rd_T61 l1 x15_1).f0))).setCell ⟨gb888,1,none⟩ (.slice A887_1 ((rd_T61 l1 x15_1).f1).length c887_1))=w28 at n0_ n1_ n2_ n3_ n4_ n5_ ⊢
            have HO_0:=n0_
            have HO_5:=n1_
            have HO_13:=n2_
            have HL887_1:=n3_
            have BK888:=n4_
            have HB:=n5_
            clear n0_ n1_ n2_ n3_ n4_ n5_
            have n0_:=Aside0.mk (Kd.V_drew HO_0.out)
            have n1_:=Aside0.mk (Kd.N_drew HO_5.out)
            have n2_:=Aside0.mk (Kd.V_drew HO_13.out)
            have n3_:=Aside0.mk (Kd.V_drew HL887_1.out)
            have n4_:=Aside0.mk (blk_drew BK888.out)
            have n5_:=Aside0.mk (below_drew1 HB.out)
            clear HO_0
            clear HO_5
            clear HO_13
            clear HL887_1
            clear BK888
            clear HB
            have HO_0:=n0_
            have HO_5:=n1_
            have HO_13:=n2_
            have HL887_1:=n3_
            have BK888:=n4_
            have HB:=n5_
            clear n0_ n1_ n2_ n3_ n4_ n5_
            have p896:0≤(0:Int):=(by omega)
            have q896:0<(l0.length:Int):=dz
            obtain⟨ad896,A896_1,c896_1,e896,hx896_0,hx896_1,hl896_1,hi896_1⟩:=at_T61 (Kd.V_reads' HO_0.out).2.2 0 p896 q896
            cases e896
            obtain⟨ce896,hce896,hMe896,hcc896⟩:=Kd.V_get HO_0.out z61 0 p896 (by first|exact q896|exact dz|(have e_:=(Kd.V_reads' HO_0.out).1;omega))
            obtain⟨ua896_1,uc896_1,rfl,ul896_1,ge896_1⟩:=k61_openF hMe896
            have hv896_1:=hcc896 1 _ rfl
            rw[add_field _ _ 1 (by omega)] at hv896_1
            replace hv896_1:=Option.some.inj (hv896_1.symm.trans hx896_1)
            injection hv896_1 with hva_ hvn_ hvc_
            rw[hva_] at ge896_1
            rw[hvc_] at ul896_1
            have HL896_1:=Aside0.mk (show Kd.V k61 61 _ w.heap.size _ _ ((rd_T61 l0 0).f1) from Kd.V_mk ul896_1 ge896_1)
            clear hva_ hvn_ hvc_ ge896_1 ul896_1
            clear hcc896 hce896
            have qi896:(0<l0.length)=True:=eq_true (by omega)
            (try rw[show ((0:Int)).toNat=0 from rfl] at hx896_0)
            (try rw[show 0*2=0 from rfl] at hx896_0)
            (try rw[Addr.add_zero'] at hx896_0)
            (try rw[show ((0:Int)).toNat=0 from rfl] at hx896_1)
            (try rw[show 0*2=0 from rfl] at hx896_1)
            (try rw[Addr.add_zero'] at hx896_1)
            have HR896_1:=Aside0.mk hi896_1
            have HC896_1:=Aside0.mk hl896_1
            clear hi896_1 hl896_1
            replace p896:=eq_true p896
            replace q896:=eq_true q896
            have p897:0≤(0:Int):=(by omega)
            have q897:0<(l0.length:Int):=dz
            obtain⟨ad897,A897_1,c897_1,e897,hx897_0,hx897_1,hl897_1,hi897_1⟩:=at_T61 (Kd.V_reads' HO_0.out).2.2 0 p897 q897
            obtain rfl:ad896=ad897:=(by injection e897)
            obtain⟨ce897,hce897,hMe897,hcc897⟩:=Kd.V_get HO_0.out z61 0 p897 (by first|exact q897|exact dz|(have e_:=(Kd.V_reads' HO_0.out).1;omega))
            obtain⟨ua897_1,uc897_1,rfl,ul897_1,ge897_1⟩:=k61_openF hMe897
            have hv897_1:=hcc897 1 _ rfl
            rw[add_field _ _ 1 (by omega)] at hv897_1
            replace hv897_1:=Option.some.inj (hv897_1.symm.trans hx897_1)
            injection hv897_1 with hva_ hvn_ hvc_
            rw[hva_] at ge897_1
            rw[hvc_] at ul897_1
            have HL897_1:=Aside0.mk (show Kd.V k61 61 _ w.heap.size _ _ ((rd_T61 l0 0).f1) from Kd.V_mk ul897_1 ge897_1)
            clear hva_ hvn_ hvc_ ge897_1 ul897_1
            clear hcc897 hce897
            have qi897:(0<l0.length)=True:=eq_true (by omega)
            (try rw[show ((0:Int)).toNat=0 from rfl] at hx897_0)
            (try rw[show 0*2=0 from rfl] at hx897_0)
            (try rw[Addr.add_zero'] at hx897_0)
            (try rw[show ((0:Int)).toNat=0 from rfl] at hx897_1)
            (try rw[show 0*2=0 from rfl] at hx897_1)
            (try rw[Addr.add_zero'] at hx897_1)
            have HR897_1:=Aside0.mk hi897_1
            have HC897_1:=Aside0.mk hl897_1
            clear hi897_1 hl897_1
            replace p897:=eq_true p897
            replace q897:=eq_true q897
            have ea_:=Option.some.inj (hx896_1.symm.trans hx897_1)
            injection ea_ with ea_ en_ ec_
            subst ea_
            subst ec_
            clear en_
            refine start_ (n:=16) (S:=fun w'=>w'.cell? ⟨gb888,0,none⟩=some (.int .i64 ((rd_T61 l1 x15_1).f0))∧w'.cell? ⟨gb888,1,none⟩=some (.slice A887_1 ((rd_T61 l1 x15_1).f1).length c887_1)∧w'.cell? ad896=some (.int .i64 ((rd_T61 l0 0).f0))∧w'.cell? ⟨ad896.block,ad896.off+1,none⟩=some (.slice A896_1 ((rd_T61 l0 0).f1).length c896_1)∧w'.cell? ad896=some (.int .i64 ((rd_T61 l0 0).f0))∧w'.cell? ⟨ad896.block,ad896.off+1,none⟩=some (.slice A896_1 ((rd_T61 l0 0).f1).length c896_1)) (ds:=[13,14]) #[F,F,F,F,F,F,F,F,F,F,F,F,F,F,F,F] (by kernel_rfl) rfl rfl ⟨(blk_cell BK888.out 0).trans rfl,(blk_cell BK888.out 1).trans rfl,hx896_0,hx896_1,hx897_0,hx897_1⟩ (fun hHeld=>?_);refine with_tabW impl_times.tab9 impl_times.bits9 (fun HT_ HW_=>?_)
            generalize w28.drew=w29 at HO_0 HO_5 HO_13 HL887_1 BK888 HB HL896_1 HL897_1 HR896_1 HR897_1 hx896_0 hx896_1 hx897_0 hx897_1 hHeld ⊢
            refine pq 0 (some 36) ?_ HT_.out rfl rfl (Or.inl ⟨by rfl,?_⟩) ?_ ?_ ?_
            rotate_left;(· intro w';go_simp;with_reducible rfl);rotate_left;(· simp only[Act.put,s1,s2,s3,i64_w,i32_w];rfl)
            refine pq 1 (some 37) ?_ HT_.out rfl rfl (Or.inl ⟨by rfl,?_⟩) ?_ ?_ ?_
            rotate_left;(· intro w';go_simp;with_reducible rfl);rotate_left;(· simp only[Act.put,s1,s2,s3,i64_w,i32_w];rfl)
            refine pq 2 (some 38) ?_ HT_.out rfl rfl (Or.inl ⟨by rfl,?_⟩) ?_ ?_ ?_
            rotate_left;(· intro w';go_simp;with_reducible rfl);rotate_left;(· simp only[Act.put,s1,s2,s3,i64_w,i32_w];rfl)
            refine pq 3 (some 39) ?_ HT_.out rfl rfl (Or.inl ⟨by rfl,?_⟩) ?_ ?_ ?_
            rotate_left;(· intro w';go_simp;with_reducible rfl);rotate_left;(· simp only[Act.put,s1,s2,s3,i64_w,i32_w];rfl)
            refine pq 5 (some 41) ?_ HT_.out rfl rfl (Or.inl ⟨by rfl,?_⟩) ?_ ?_ ?_
            rotate_left;(· intro w';go_simp;with_reducible rfl);rotate_left;(· simp only[Act.put,s1,s2,s3,i64_w,i32_w];rfl)
            refine pq 8 (some 44) ?_ HT_.out rfl rfl (Or.inl ⟨by rfl,?_⟩) ?_ ?_ ?_
            rotate_left;(· intro w';go_simp;with_reducible rfl);rotate_left;(· simp only[Act.put,s1,s2,s3,i64_w,i32_w];rfl)
            refine pq 9 (some 45) ?_ HT_.out rfl rfl (Or.inl ⟨by rfl,?_⟩) ?_ ?_ ?_
            rotate_left;(· intro w';go_simp;with_reducible rfl);rotate_left;(· simp only[Act.put,s1,s2,s3,i64_w,i32_w];rfl)
            refine pq 10 (some 46) ?_ HT_.out rfl rfl (Or.inl ⟨by rfl,?_⟩) ?_ ?_ ?_
            rotate_left;(· intro w';go_simp;with_reducible rfl);rotate_left;(· simp only[Act.put,s1,s2,s3,i64_w,i32_w];rfl)
            refine take_ (i:=4) (N:=some 40) (v:=?_) (a':=?_) #[T,T,T,T,T,T,F,F,T,T,T,F,F,F,F,F] rfl rfl (take_ofW HT_.out HW_.out (by kernel_rfl)) (fun _ _ _ h=>h) (Or.inl ⟨by rfl,?_⟩) hHeld ?_ ?_
            rotate_left;(· rintro w' ⟨s0,s1,s2,s3,s4,s5⟩;go_simp;with_reducible rfl);rotate_left;(· simp only[Act.put,s1,s2,s3,i64_w,i32_w];rfl)
            refine take_ (i:=6) (N:=some 42) (v:=?_) (a':=?_) #[T,T,T,T,T,T,T,F,T,T,T,F,F,F,F,F] rfl rfl (take_ofW HT_.out HW_.out (by kernel_rfl)) (fun _ _ _ h=>h) (Or.inl ⟨by rfl,?_⟩) hHeld ?_ ?_
            rotate_left;(· rintro w' ⟨s0,s1,s2,s3,s4,s5⟩;go_simp;with_reducible rfl);rotate_left;(· simp only[Act.put,s1,s2,s3,i64_w,i32_w];rfl)
            refine pq 7 (some 43) ?_ HT_.out rfl rfl (Or.inl ⟨by rfl,?_⟩) ?_ ?_ ?_
            rotate_left;(· intro w';go_simp;with_reducible rfl);rotate_left;(· simp only[Act.put,s1,s2,s3,i64_w,i32_w];rfl)
            refine take_ (i:=11) (N:=some 47) (v:=?_) (a':=?_) #[T,T,T,T,T,T,T,T,T,T,T,T,F,F,F,F] rfl rfl (take_ofW HT_.out HW_.out (by kernel_rfl)) (fun _ _ _ h=>h) (Or.inl ⟨by rfl,?_⟩) hHeld ?_ ?_
            rotate_left;(· rintro w' ⟨s0,s1,s2,s3,s4,s5⟩;go_simp;with_reducible rfl);rotate_left;(· simp only[Act.put,s1,s2,s3,i64_w,i32_w];rfl)
            refine pq 12 (some 48) ?_ HT_.out rfl rfl (Or.inl ⟨by rfl,?_⟩) ?_ ?_ ?_
            rotate_left;(· intro w';go_simp;with_reducible rfl);rotate_left;(· simp only[Act.put,s1,s2,s3,i64_w,i32_w];rfl)
            refine last_ (i:=13) (N:=some 49) #[T,T,T,T,T,T,T,T,T,T,T,T,T,T,F,F] rfl rfl (one_of HT_.out (by kernel_rfl)) (by decide) (fun K hK=>?_)
            refine value_ (w1:=?_) (v:=?_) (by rfl) rfl ?_ ?_
            rotate_left 2
            ·go_simp
             constructor
             ·rfl
             ·rfl
            refine hK.out _ _ ?_
            clear hK K
            refine norm_ (a':=?_) ?_ ?_
            rotate_left
            ·show Act.put _ (some 49) _=_
             simp only[Act.put,s1,s2,s3,i64_w,i32_w]
             rfl
            refine last_ (i:=14) (N:=some 50) #[T,T,T,T,T,T,T,T,T,T,T,T,T,T,T,F] rfl rfl (one_of HT_.out (by kernel_rfl)) (by decide) (fun K hK=>?_)
            refine Kd.N_append_step k61 (w0:=w) w.heap.size (by rfl) (.tmp 36) (.tmp 49) 46 61 (.agg #[(.int .i64 0),(.slice none 0 0)]) 32 rfl Try.underlying46 info61 rfl (by decide) (by omega) u5 x5_1 (⟨wrap64 (((rd_T61 l0 0).f0)*((rd_T61 l1 x15_1).f0)),(rd_T61 l0 0).f1⟩:S61) [.int .i64 (wrap64 (((rd_T61 l0 0).f0)*((rd_T61 l1 x15_1).f0))),.slice A896_1 ((rd_T61 l0 0).f1).length c896_1] (fun k_=>((P0_ k_∨P1_ k_)∨w.heap.size≤k_)∧k_≠gb888) (fun k_=>((fun k_=>((P0_ k_∨P1_ k_)∨w.heap.size≤k_)∧k_≠gb888)) k_∧some k_≠(u5:Value).ownBlock) rfl rfl ?aP (fun _ hk=>hk) ?aF ?aO ?aB ?aS ?aL ?_
            (case aP=>exact(k61_mkF _ _ (⟨wrap64 (((rd_T61 l0 0).f0)*((rd_T61 l1 x15_1).f0)),(rd_T61 l0 0).f1⟩:S61) (Kd.V_reads' (Kd.V_mono (ok':=(fun k_=>((fun k_=>((P0_ k_∨P1_ k_)∨w.heap.size≤k_)∧k_≠gb888)) k_∧some k_≠(u5:Value).ownBlock)) (HL897_1.out) (fun k_ hk=>⟨⟨hk.1,hk.2.2⟩,hk.2.1⟩))).2.1 (Kd.V_F (Kd.V_mono (ok':=(fun k_=>((fun k_=>((P0_ k_∨P1_ k_)∨w.heap.size≤k_)∧k_≠gb888)) k_∧some k_≠(u5:Value).ownBlock)) (HL897_1.out) (fun k_ hk=>⟨⟨hk.1,hk.2.2⟩,hk.2.1⟩)))))
            (case aB=>exact(by repeat (first|(with_reducible first|exact HB.out|apply below_alloc|apply pw_below_drewN|apply below_drew1|refine below_set ?_ GE888.out)|exact HB.out)))
            (case aF=>exact(fun k_ hk=>⟨(.inr (Nat.le_trans (below_size (by repeat (first|(with_reducible first|exact HB.out|apply below_alloc|apply pw_below_drewN|apply below_drew1|refine below_set ?_ GE888.out)|exact HB.out))) hk)),Kd.freshB (g:=gb888) (o:=.cells #[.int .i64 ((rd_T61 l1 x15_1).f0),.slice A887_1 ((rd_T61 l1 x15_1).f1).length c887_1] 61 (0,0)) (by(with_reducible repeat (first|refine blk_drewN ?_ _|refine blk_drew ?_|refine blk_alloc ?_ _));exact BK888.out) k_ hk⟩))
            (case aO=>exact(Kd.Nz HO_5.out))
            (case aS=>exact(below_size (by repeat (first|(with_reducible first|exact HB.out|apply below_alloc|apply pw_below_drewN|apply below_drew1|refine below_set ?_ GE888.out)|exact HB.out))))
            (case aL=>have:=LMc23.out;omega)
            intro v899 w30 ho hb hg hat
            rw[← Ny898.out] at ho
            have n0_:=Aside0.mk (Kd.V_afterv (ok:=(fun k_=>((P0_ k_∨P1_ k_)∨w.heap.size≤k_)∧k_≠gb888)) (Kd.Vz <| Kd.V_mono HO_0.out (fun _ hk=>⟨⟨hk.1,hk.2.2⟩,hk.2.1⟩)) hg hat)
            have n1_:=Aside0.mk (Kd.V_afterv (ok:=(fun k_=>((P0_ k_∨P1_ k_)∨w.heap.size≤k_)∧k_≠gb888)) (Kd.Vz <| Kd.V_mono HO_13.out (fun _ hk=>⟨⟨hk.1,hk.2.2⟩,hk.2.1⟩)) hg hat)
            have n2_:=Aside0.mk (Kd.V_afterv (ok:=(fun k_=>((P0_ k_∨P1_ k_)∨w.heap.size≤k_)∧k_≠gb888)) (Kd.Vz <| Kd.V_mono HL887_1.out (fun _ hk=>⟨⟨hk.1,hk.2.2⟩,hk.2.1⟩)) hg hat)
            have n3_:=Aside0.mk (blk_grown (g:=gb888) (o:=.cells #[.int .i64 ((rd_T61 l1 x15_1).f0),.slice A887_1 ((rd_T61 l1 x15_1).f1).length c887_1] 61 (0,0)) (by(with_reducible repeat (first|refine blk_drewN ?_ _|refine blk_drew ?_|refine blk_alloc ?_ _));exact BK888.out) hg (Kd.N_away HO_5.out (fun _ hk=>hk.2)))
            have n4_:=Aside0.mk (Kd.V_afterv (ok:=(fun k_=>((P0_ k_∨P1_ k_)∨w.heap.size≤k_)∧k_≠gb888)) (Kd.Vz <| Kd.V_mono HL896_1.out (fun _ hk=>⟨⟨hk.1,hk.2.2⟩,hk.2.1⟩)) hg hat)
            have n5_:=Aside0.mk (Kd.V_afterv (ok:=(fun k_=>((P0_ k_∨P1_ k_)∨w.heap.size≤k_)∧k_≠gb888)) (Kd.Vz <| Kd.V_mono HL897_1.out (fun _ hk=>⟨⟨hk.1,hk.2.2⟩,hk.2.1⟩)) hg hat)
            have n6_:=Aside0.mk (hb)
            have n7_:=Aside0.mk (ho)
            clear HO_0
            clear HO_13
            clear HL887_1
            clear BK888
            clear HL896_1
            clear HL897_1
            clear HB
            clear HO_5
            have HO_0:=n0_
            have HO_13:=n1_
            have HL887_1:=n2_
            have BK888:=n3_
            have HL896_1:=n4_
            have HL897_1:=n5_
            have HB:=n6_
            have HO900:=n7_
            clear n0_ n1_ n2_ n3_ n4_ n5_ n6_ n7_
            clear ho hb hg hat
            refine hK.out _ _ ?_
            clear hK K
            refine norm_ (a':=?_) ?_ ?_
            rotate_left
            ·show Act.put _ (some 50) _=_
             simp only[Act.put,s1,s2,s3,i64_w,i32_w]
             rfl
            refine pq 15 (some 5) ?_ HT_.out rfl rfl (Or.inl ⟨by rfl,?_⟩) ?_ ?_ ?_
            rotate_left;(· intro w';go_simp;with_reducible rfl);rotate_left;(· simp only[Act.put,s1,s2,s3,i64_w,i32_w];rfl)
            refine done_ (done_of HT_.out (by kernel_rfl)) ?_
            have q31:(1:Int)≤((l0.length:Int):Int):=dz
            obtain⟨i031,hi031,_,hsz31,_⟩:=info_parts info61
            have hroom31:l0.length≤c0:=(Kd.V_reads' HO_0.out).2.1
            have hC31:Kd.F k61 _ _ (some ad896) l0.length l0:=(Kd.V_at (base:=w.heap.size) HO_0.out).2.2
            have hcut31:=cut_from (P:=Try.prog) 46 61 .i64 Try.underlying46 hi031 2 hsz31 (some ad896) l0.length c0 1 (by omega) q31
            have hr31:=Kd.F_cut (m:=(1:Int).toNat) (c:=c0) hC31 (by omega) hroom31
            obtain⟨A31,hA31⟩:∃ Aq_,Aq_=(if c0=(1:Int).toNat then(some ad896) else((some ad896):Option Addr).map (·.add ((1:Int).toNat*2))):=⟨_,rfl⟩
            obtain⟨c31,hc31⟩:∃ cq_,cq_=c0-(1:Int).toNat:=⟨_,rfl⟩
            have hy31:y901.length=l0.length-(1:Int).toNat:=(by rw[Ny901.out,List.length_drop]<;>omega)
            rw[show (l0).drop (1:Int).toNat=y901 from Ny901.out.symm] at hr31
            replace hr31:Kd.F k61 _ _ A31 y901.length y901:=(by rw[hA31];exact hr31)
            rw[← hy31,← hA31,← hc31] at hcut31
            have HO905:=Aside0.mk (show Kd.V k61 61 _ w.heap.size _ (.slice A31 y901.length c31) y901 from Kd.V_mk (by rw[hy31,hc31];exact Nat.sub_le_sub_right hroom31 _) hr31)
            have HC905:=Aside0.mk (show y901.length≤c31 from by rw[hy31,hc31];exact Nat.sub_le_sub_right hroom31 _)
            clear hr31 hC31 hroom31 hi031 hsz31 hc31
            have KY31:=Aside0.mk hy31
            have KA31:=Aside0.mk hA31
            clear hy31 hA31
            replace q31:=eq_true q31
            try go_wp2_with (first|((with_reducible refine gate_builtin (b:=.append) (xs:=#[.tmp 51,.tmp 53]) rfl ?_);at_builtin;refine Kd.N_append_rows k61 (w0:=w) w.heap.size rfl (.tmp 51) (.tmp 53) 46 61 (.agg #[(.int .i64 0),(.slice none 0 0)]) 32 rfl Try.underlying46 info61 rfl (by decide) (by omega) v899 y898 y901 _ _ _ (fun k_=>((P0_ k_∨P1_ k_)∨w.heap.size≤k_)∧k_≠gb888) (fun k_=>((fun k_=>((P0_ k_∨P1_ k_)∨w.heap.size≤k_)∧k_≠gb888)) k_∧some k_≠(v899:Value).ownBlock) rfl rfl ?aO ?aR (fun _ hk=>hk) ?aF ?aB ?aS ?aL ?_;(case aR=>exact(by skip;exact Kd.V_F (Kd.V_mono (ok':=(fun k_=>((fun k_=>((P0_ k_∨P1_ k_)∨w.heap.size≤k_)∧k_≠gb888)) k_∧some k_≠(v899:Value).ownBlock)) (HO905.out) (fun k_ hk=>⟨⟨hk.1.1,hk.1.2⟩,hk.2⟩))));(case aB=>exact(by repeat (first|(with_reducible first|exact HB.out|apply below_alloc|apply pw_below_drewN|apply below_drew1|refine below_set ?_ GE888.out)|exact HB.out)));(case aF=>exact(fun k_ hk=>⟨(.inr (Nat.le_trans (below_size (by repeat (first|(with_reducible first|exact HB.out|apply below_alloc|apply pw_below_drewN|apply below_drew1|refine below_set ?_ GE888.out)|exact HB.out))) hk)),Kd.freshB (g:=gb888) (o:=.cells #[.int .i64 ((rd_T61 l1 x15_1).f0),.slice A887_1 ((rd_T61 l1 x15_1).f1).length c887_1] 61 (0,0)) (by(with_reducible repeat (first|refine blk_drewN ?_ _|refine blk_drew ?_|refine blk_alloc ?_ _));exact BK888.out) k_ hk⟩));(case aO=>exact(Kd.Nz HO900.out));(case aS=>exact(below_size (by repeat (first|(with_reducible first|exact HB.out|apply below_alloc|apply pw_below_drewN|apply below_drew1|refine below_set ?_ GE888.out)|exact HB.out))));(case aL=>have:=LMc25.out;omega);intro v907 w32 ho hb hg hat;rw[← Ny906.out] at ho;replace HO_0:=Aside0.mk (Kd.V_afterv (ok:=(fun k_=>((P0_ k_∨P1_ k_)∨w.heap.size≤k_)∧k_≠gb888)) (Kd.Vz HO_0.out) hg hat);replace HO_13:=Aside0.mk (Kd.V_afterv (ok:=(fun k_=>((P0_ k_∨P1_ k_)∨w.heap.size≤k_)∧k_≠gb888)) (Kd.Vz HO_13.out) hg hat);replace HL887_1:=Aside0.mk (Kd.V_afterv (ok:=(fun k_=>((P0_ k_∨P1_ k_)∨w.heap.size≤k_)∧k_≠gb888)) (Kd.Vz HL887_1.out) hg hat);replace BK888:=Aside0.mk (blk_grown (g:=gb888) (o:=.cells #[.int .i64 ((rd_T61 l1 x15_1).f0),.slice A887_1 ((rd_T61 l1 x15_1).f1).length c887_1] 61 (0,0)) (by(with_reducible repeat (first|refine blk_drewN ?_ _|refine blk_drew ?_|refine blk_alloc ?_ _));exact BK888.out) hg (Kd.N_away HO900.out (fun _ hk=>hk.2)));replace HL896_1:=Aside0.mk (Kd.V_afterv (ok:=(fun k_=>((P0_ k_∨P1_ k_)∨w.heap.size≤k_)∧k_≠gb888)) (Kd.Vz HL896_1.out) hg hat);replace HL897_1:=Aside0.mk (Kd.V_afterv (ok:=(fun k_=>((P0_ k_∨P1_ k_)∨w.heap.size≤k_)∧k_≠gb888)) (Kd.Vz HL897_1.out) hg hat);replace HO905:=Aside0.mk (Kd.V_afterv (ok:=(fun k_=>((P0_ k_∨P1_ k_)∨w.heap.size≤k_)∧k_≠gb888)) (Kd.Vz HO905.out) hg hat);replace HB:=Aside0.mk (hb);have HO908:=Aside0.mk (ho);clear HO900;clear ho hb hg hat))
            go_roundg k1
            case measure=>have:=HK1.out;omega
            case rel=>exact⟨(y906),(wrap64 (x15_1+1)),(by first|rfl|(simp;done)|(simp[*];done)),H',⟨by have:=HK1.out;omega⟩,⟨Kd.Vz <| Kd.V_mono HO_0.out (fun _ hk=>⟨hk.1.1,hk.2⟩)⟩,⟨Kd.Nz <| Kd.N_mono HO908.out (fun _ hk=>hk.1)⟩,⟨Kd.Vz <| Kd.V_mono HO_13.out (fun _ hk=>⟨hk.1.1,hk.2⟩)⟩,⟨by repeat (first|(with_reducible first|exact HB.out|apply below_alloc|apply pw_below_drewN|apply below_drew1|refine below_set ?_ GE888.out)|exact HB.out)⟩⟩
           ·rw[if_neg c25] at H
            exact absurd H (by simp)
          ·rw[if_neg c24] at H
           exact absurd H (by simp)
         ·rw[if_neg c23] at H
          exact absurd H (by simp)
        ·rw[if_neg c22] at H
         exact absurd H (by simp)
      ·rw[if_neg c10] at H
       exact absurd H (by simp)
     ·rw[if_neg c9] at H
      exact absurd H (by simp)
    ·rw[if_neg c8] at H
     have c8b0:decide (x15_1<(l1.length:Int))=false:=decide_eq_false c8
     clear c8
     obtain rfl:=Option.some.inj H
     go_wp2
     go_ret
     exact⟨_,by first|rfl|(simp[errW_none,errW_some]<;>rfl)|(simp[*,errW_none,errW_some]<;>rfl),by(with_reducible repeat (first|apply Kd.N_alloc|apply Kd.N_drewN|apply Kd.N_drew));exact HO_5.out,bz⟩
end Go.Proofs.Ytfblcanijhnhmaa.P