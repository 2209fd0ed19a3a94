/- One Go function comes to what its Lean function tells. -/
import Derived.Test.YtfblcanijhnhmaaP0
import Derived.Test.YtfblcanijhnhmaaPimplcompare
namespace Go.Proofs.Ytfblcanijhnhmaa.P
open Go.RowKit YtfblcanijhnhmaaW.PrintWords YtfblcanijhnhmaaW.PrintLast YtfblcanijhnhmaaW.PrintMore
set_option linter.unusedVariables false
set_option linter.unusedSimpArgs false
/-! ### impl_natural: function 55 -/
mutual
def impl_natural.l0:Nat→List (S61)→List (S61)→List (S61)→Option ((List (S61)))
 | 0,_,_,_=>none
 | k+1,x0,x1,x5=>if(x0.length:Int)>0 then(impl_natural.j1 k x0 x1 x5 (decide ((x1.length:Int)>0))) else(impl_natural.j1 k x0 x1 x5 false)
def impl_natural.j1:Nat→List (S61)→List (S61)→List (S61)→Bool→Option ((List (S61)))
 | 0,_,_,_,_=>none
 | k+1,x0,x1,x5,x15=>if x15=true then(if 0<(x0.length:Int) then(if 0<(x1.length:Int) then((impl_compare.f k ((rd_T61 x0 0).f1) ((rd_T61 x1 0).f1)).bind fun t712=>(if t712>0 then(if x5.length<4398046511104 then(if 1≤(x0.length:Int) then(impl_natural.l0 k (x0.drop 1) x1 (x5++[(⟨(rd_T61 x0 0).f0,(rd_T61 x0 0).f1⟩:S61)])) else(none)) else(none)) else(if t712<0 then(if x5.length<4398046511104 then(if 1≤(x1.length:Int) then(impl_natural.l0 k x0 (x1.drop 1) (x5++[(⟨(rd_T61 x1 0).f0,(rd_T61 x1 0).f1⟩:S61)])) else(none)) else(none)) else(if x5.length<4398046511104 then(if 1≤(x0.length:Int) then(if 1≤(x1.length:Int) then(impl_natural.l0 k (x0.drop 1) (x1.drop 1) (x5++[(⟨wrap64 (((rd_T61 x0 0).f0)+((rd_T61 x1 0).f0)),(rd_T61 x0 0).f1⟩:S61)])) else(none)) else(none)) else(none))))) else(none)) else(none)) else(if x5.length+x0.length<4398046511104 then((some (x5++x0:List (S61))).bind fun y704=>(if y704.length+x1.length<4398046511104 then(some (y704++x1)) else(none))) else(none))
end
def impl_natural.f (k:Nat)(l0:List (S61))(l1:List (S61)):Option ((List (S61))):=impl_natural.l0 k l0 l1 (([]:List (S61)))
theorem impl_natural.mono_l:∀ k,(∀ y0 y1 y2,LeO (impl_natural.l0 k y0 y1 y2) (impl_natural.l0 (k+1) y0 y1 y2))∧(∀ y0 y1 y2 y3,LeO (impl_natural.j1 k y0 y1 y2 y3) (impl_natural.j1 (k+1) y0 y1 y2 y3))
 | 0=>⟨fun _ _ _ r h=>by simp[impl_natural.l0] at h,fun _ _ _ _ r h=>by simp[impl_natural.j1] at h⟩
 | k+1=>by
  obtain⟨ih0,ih1⟩:=impl_natural.mono_l k
  refine⟨?_,?_⟩
  ·intro y0 y1 y2
   unfold impl_natural.l0
   repeat' first|(with_reducible first|exact ih0 _ _ _|exact ih1 _ _ _ _|exact LeO.refl _|exact LeO.none _|refine LeO.ite ?_ ?_|refine LeO.bind ?_ (fun _=>?_))|exact ih0 _ _ _|exact ih1 _ _ _ _|exact LeO.none _|refine LeO.ite ?_ ?_|refine LeO.bind ?_ (fun _=>?_)
  ·intro y0 y1 y2 y3
   unfold impl_natural.j1
   repeat' first|(with_reducible first|exact ih0 _ _ _|exact ih1 _ _ _ _|exact impl_compare.mono _ _ _|exact LeO.refl _|exact LeO.none _|refine LeO.ite ?_ ?_|refine LeO.bind ?_ (fun _=>?_))|exact ih0 _ _ _|exact ih1 _ _ _ _|exact impl_compare.mono _ _ _|exact LeO.none _|refine LeO.ite ?_ ?_|refine LeO.bind ?_ (fun _=>?_)
theorem impl_natural.mono:∀ a0 a1 k,LeO (impl_natural.f k a0 a1) (impl_natural.f (k+1) a0 a1):=by
 intro a0 a1 k
 obtain⟨ih0,ih1⟩:=impl_natural.mono_l k
 unfold impl_natural.f
 repeat' first|(with_reducible first|exact ih0 _ _ _|exact ih1 _ _ _ _|exact LeO.refl _|exact LeO.none _|refine LeO.ite ?_ ?_|refine LeO.bind ?_ (fun _=>?_))|exact ih0 _ _ _|exact ih1 _ _ _ _|exact LeO.none _|refine LeO.ite ?_ ?_|refine LeO.bind ?_ (fun _=>?_)
def impl_natural.T3:Bool × List (List Nat × List Nat):=(true,[([],[]),([0],[0]),([1],[1]),([2],[2]),([],[]),([4],[4]),([5],[5]),([6],[6]),([3,7],[3,7]),([8,8,0,1,2,3,4,5,6,7,8],[8])])
def impl_natural.B3:List Nat:=[0,1,3,7,0,16,48,112,255,511]
theorem impl_natural.tab3:rtab .any (opsOf Try.f55 3)=impl_natural.T3:=by kernel_rfl
theorem impl_natural.bits3:waitsOk impl_natural.T3.2 impl_natural.B3=true:=by kernel_rfl
def impl_natural.T4:Bool × List (List Nat × List Nat):=(true,[([],[]),([],[]),([1],[1]),([2],[2]),([3],[3]),([],[]),([5],[5]),([6],[6]),([7],[7]),([4,8],[4,8]),([],[]),([10],[10]),([11],[11]),([12],[12]),([9,13],[9,13]),([14],[14]),([0,15],[0,15]),([16,16,0,1,2,3,4,5,6,7,8,9,10,11,12,13,14,15,16],[0,16])])
def impl_natural.B4:List Nat:=[0,0,2,6,14,0,32,96,224,510,0,1024,3072,7168,16382,32766,65535,131071]
theorem impl_natural.tab4:rtab .any (opsOf Try.f55 4)=impl_natural.T4:=by kernel_rfl
theorem impl_natural.bits4:waitsOk impl_natural.T4.2 impl_natural.B4=true:=by kernel_rfl
set_option maxHeartbeats 8000000 in
set_option maxRecDepth 100000 in
theorem impl_natural.calls (k:Nat)(P0_:Nat→Prop)(A0:Option Addr)(c0:Nat)(l0:List (S61))(P1_:Nat→Prop)(A1:Option Addr)(c1:Nat)(l1:List (S61))(r:List (S61))(w:World)(hs0:Kd.V k61 61 w w.heap.size (fun k_=>P0_ k_) (.slice A0 l0.length c0) l0)(hs1:Kd.V k61 61 w w.heap.size (fun k_=>P1_ k_) (.slice A1 l1.length c1) l1)(h:impl_natural.f k l0 l1=some r) :
  Calls Try.prog 55 #[.slice A0 l0.length c0,.slice A1 l1.length c1] w fun e w'=>∃ v0_:Value,e=.returned (v0_)∧Kd.N k61 61 w' w.heap.size (fun k_=>((P0_ k_∨P1_ k_)∨w.heap.size≤k_)) v0_ r∧Below w.heap.size w w':=by
 have hu61:=Try.underlying61
 have HO0:=Aside0.mk (show Kd.V k61 61 w w.heap.size (fun k_=>((P0_ k_∨P1_ k_)∨w.heap.size≤k_)) (.slice A0 l0.length c0) l0 from Kd.V_mono hs0 (fun k_ hk=>.inl (.inl hk)))
 have HO1:=Aside0.mk (show Kd.V k61 61 w w.heap.size (fun k_=>((P0_ k_∨P1_ k_)∨w.heap.size≤k_)) (.slice A1 l1.length c1) l1 from Kd.V_mono hs1 (fun k_ hk=>.inl (.inr hk)))
 have HB:=Aside0.mk (Below.refl w.heap.size w)
 have H:(impl_natural.l0 k l0 l1 (([]:List (S61))))=some r:=h
 clear h
 obtain⟨y701,hy701⟩:∃ y_:List (S61),y_=(([]:List (S61))):=⟨_,rfl⟩
 replace H:(impl_natural.l0 k l0 l1 y701)=some r:=hz hy701 H
 have Ny701:=Aside0.mk hy701
 clear hy701
 have H':=Aside0.mk H
 clear H
 go_enter Try.func55,Try.ntmps55
 go_wp2_with (first|((with_reducible refine gate_dst (N:=7) rfl ?_);refine Kd.N_lit k61 _ 61 ?hg (N':=7) ?hd (xs:=([]:List (S61))) (inner:=[]) (ok:=(fun k_=>((P0_ k_∨P1_ k_)∨w.heap.size≤k_))) (okp:=(fun k_=>((P0_ k_∨P1_ k_)∨w.heap.size≤k_))) ?hr ?hp (fun _ hk=>hk) ((show ∀ k_,w.heap.size≤k_→(fun k_=>((P0_ k_∨P1_ k_)∨w.heap.size≤k_)) k_ from fun k_ hk=>(.inr (Nat.le_trans (below_size bz) hk))) _ (Nat.le_refl _)) (Below.refl _ _) (Nat.le_refl _) (by simp) ?_;(case hd=>rfl);(case hg=>rfl);(case hr=>first|(go_simp;done)|(go_simp;rfl));(case hp=>exact(Reps.none _ _));intro v702 w3 ho4 hb hg_ hnew_;clear hg_ hnew_;(first|rw[← Ny701.out] at ho4|(simp only[Int.reduceToNat] at ho4;rw[← Ny701.out] at ho4));replace HO0:=Aside0.mk (Kd.V_elder' (Kd.Vz HO0.out) (Kd.N_base ho4) hb);replace HO1:=Aside0.mk (Kd.V_elder' (Kd.Vz HO1.out) (Kd.N_base ho4) hb);have HO703:=Aside0.mk (Kd.N_lower ho4 (below_size bz));replace HB:=Aside0.mk (below_step bz hb);clear hb ho4))
 go_loopg [0,1,5] k (fun kq v0 v1 v5 w'=>∃ (x0_1:List (S61)) (x1_1:List (S61)) (x5_1:List (S61)),Aside0 (impl_natural.l0 kq x0_1 x1_1 x5_1=some r)∧Aside0 (kq≤k)∧Aside0 (Kd.V k61 61 w' w.heap.size (fun k_=>((P0_ k_∨P1_ k_)∨w.heap.size≤k_)∧some k_≠(v5:Value).ownBlock) v0 x0_1)∧Aside0 (Kd.V k61 61 w' w.heap.size (fun k_=>((P0_ k_∨P1_ k_)∨w.heap.size≤k_)∧some k_≠(v5:Value).ownBlock) v1 x1_1)∧Aside0 (Kd.N k61 61 w' w.heap.size (fun k_=>((P0_ k_∨P1_ k_)∨w.heap.size≤k_)) v5 x5_1)∧Aside0 (Below w.heap.size w w'))
 case atStart=>exact⟨(l0),(l1),(y701),H',⟨Nat.le_refl _⟩,⟨by(with_reducible repeat (first|apply Kd.V_alloc|apply Kd.V_drewN|apply Kd.V_drew));exact HO0.out⟩,⟨by(with_reducible repeat (first|apply Kd.V_alloc|apply Kd.V_drewN|apply Kd.V_drew));exact HO1.out⟩,⟨by(with_reducible repeat (first|apply Kd.N_alloc|apply Kd.N_drewN|apply Kd.N_drew));exact HO703.out⟩,⟨bz⟩⟩
 case round =>
  clear H'
  try clear c1
  try clear p2
  obtain⟨x0_1,x1_1,x5_1,HA,HK1,HO_0,HO_1,HO_5,HB⟩:=hrel
  cases gk with
  | zero=>exact absurd HA.out (by simp[impl_natural.l0])
  | succ k1 =>
   have H:=HA.out
   clear HA
   simp only[impl_natural.l0] at H
   have HC5:=Aside0.mk H
   clear H
   go_upto_region 2 with (fail)
   go_cut [15] (fun v15 wc=>∃ (kq:Nat) (x15_4:Bool),v15=.bool x15_4∧Aside0 (impl_natural.j1 kq x0_1 x1_1 x5_1 x15_4=some r)∧Aside0 (kq≤k1)∧Aside0 (Kd.V k61 61 wc w.heap.size (fun k_=>((P0_ k_∨P1_ k_)∨w.heap.size≤k_)∧some k_≠(u5:Value).ownBlock) u0 x0_1)∧Aside0 (Kd.V k61 61 wc w.heap.size (fun k_=>((P0_ k_∨P1_ k_)∨w.heap.size≤k_)∧some k_≠(u5:Value).ownBlock) u1 x1_1)∧Aside0 (Kd.N k61 61 wc w.heap.size (fun k_=>((P0_ k_∨P1_ k_)∨w.heap.size≤k_)) u5 x5_1)∧Aside0 (Below w.heap.size w wc))
   case first =>
    have H:=HC5.out
    clear HC5
    by_cases c6:(x0_1.length:Int)>0
    ·rw[if_pos c6] at H
     have c6b0:decide (0<(x0_1.length:Int))=true:=decide_eq_true c6
     have c6b1:decide (0<x0_1.length)=true:=decide_eq_true (by omega)
     clear c6
     (first|rw[c6b0]|(simp only[i64_w,i32_w];rw[c6b0])|skip)
     have H':=Aside0.mk H
     clear H
     obtain⟨Ao7,co7,eo7⟩:=Kd.V_slice HO_0.out
     subst eo7
     obtain⟨Ao8,co8,eo8⟩:=Kd.V_slice HO_1.out
     subst eo8
     go_wp2
     go_meet
     case rel=>exact⟨_,(decide ((x1_1.length:Int)>0)),(by first|rfl|(simp;done)|(simp[*];done)),H',⟨by have:=HK1.out;first|omega|exact Nat.le_refl _⟩,⟨by(with_reducible repeat (first|apply Kd.V_alloc|apply Kd.V_drewN|apply Kd.V_drew));exact HO_0.out⟩,⟨by(with_reducible repeat (first|apply Kd.V_alloc|apply Kd.V_drewN|apply Kd.V_drew));exact HO_1.out⟩,⟨by(with_reducible repeat (first|apply Kd.N_alloc|apply Kd.N_drewN|apply Kd.N_drew));exact HO_5.out⟩,⟨bz⟩⟩
    ·rw[if_neg c6] at H
     have c6b0:decide (0<(x0_1.length:Int))=false:=decide_eq_false c6
     have c6b1:decide (0<x0_1.length)=false:=decide_eq_false (by omega)
     clear c6
     (first|rw[c6b0]|(simp only[i64_w,i32_w];rw[c6b0])|skip)
     have H':=Aside0.mk H
     clear H
     obtain⟨Ao9,co9,eo9⟩:=Kd.V_slice HO_0.out
     subst eo9
     go_wp2
     go_meet
     case rel=>exact⟨_,(false),(by first|rfl|(simp;done)|(simp[*];done)),H',⟨by have:=HK1.out;first|omega|exact Nat.le_refl _⟩,⟨by(with_reducible repeat (first|apply Kd.V_alloc|apply Kd.V_drewN|apply Kd.V_drew));exact HO_0.out⟩,⟨by(with_reducible repeat (first|apply Kd.V_alloc|apply Kd.V_drewN|apply Kd.V_drew));exact HO_1.out⟩,⟨by(with_reducible repeat (first|apply Kd.N_alloc|apply Kd.N_drewN|apply Kd.N_drew));exact HO_5.out⟩,⟨bz⟩⟩
   case rest =>
    clear HC5
    try clear c1
    try clear p2
    try clear c5
    try clear c6
    try clear c6b0
    try clear c6b1
    try clear p2
    obtain⟨kq,x15_4,rfl,HA,HJ4,HO_0,HO_1,HO_5,HB⟩:=hcut
    cases kq with
    | zero=>exact absurd HA.out (by simp[impl_natural.j1])
    | succ kj4 =>
     have H:=HA.out
     clear HA
     simp only[impl_natural.j1] at H
     by_cases c10:x15_4=true
     ·subst c10
      have H1:(if 0<(x0_1.length:Int) then(if 0<(x1_1.length:Int) then((impl_compare.f kj4 ((rd_T61 x0_1 0).f1) ((rd_T61 x1_1 0).f1)).bind fun t712=>(if t712>0 then(if x5_1.length<4398046511104 then(if 1≤(x0_1.length:Int) then(impl_natural.l0 kj4 (x0_1.drop 1) x1_1 (x5_1++[(⟨(rd_T61 x0_1 0).f0,(rd_T61 x0_1 0).f1⟩:S61)])) else(none)) else(none)) else(if t712<0 then(if x5_1.length<4398046511104 then(if 1≤(x1_1.length:Int) then(impl_natural.l0 kj4 x0_1 (x1_1.drop 1) (x5_1++[(⟨(rd_T61 x1_1 0).f0,(rd_T61 x1_1 0).f1⟩:S61)])) else(none)) else(none)) else(if x5_1.length<4398046511104 then(if 1≤(x0_1.length:Int) then(if 1≤(x1_1.length:Int) then(impl_natural.l0 kj4 (x0_1.drop 1) (x1_1.drop 1) (x5_1++[(⟨wrap64 (((rd_T61 x0_1 0).f0)+((rd_T61 x1_1 0).f0)),(rd_T61 x0_1 0).f1⟩:S61)])) else(none)) else(none)) else(none))))) else(none)) else(none))=some r:=by rw[if_pos rfl] at H;exact H
      clear H
      have H:=H1
      clear H1
      by_cases c11:0<(x0_1.length:Int)
      ·rw[if_pos c11] at H
       have c11b0:decide (0<(x0_1.length:Int))=true:=decide_eq_true c11
       have c11b1:decide (0<x0_1.length)=true:=decide_eq_true (by omega)
       clear c11
       by_cases c12:0<(x1_1.length:Int)
       ·rw[if_pos c12] at H
        have c12b0:decide (0<(x1_1.length:Int))=true:=decide_eq_true c12
        have c12b1:decide (0<x1_1.length)=true:=decide_eq_true (by omega)
        clear c12
        replace H:=Option.bind_eq_some_iff.mp H
        obtain⟨t712,A130,H⟩:=H
        replace H:(if t712>0 then(if x5_1.length<4398046511104 then(if 1≤(x0_1.length:Int) then(impl_natural.l0 kj4 (x0_1.drop 1) x1_1 (x5_1++[(⟨(rd_T61 x0_1 0).f0,(rd_T61 x0_1 0).f1⟩:S61)])) else(none)) else(none)) else(if t712<0 then(if x5_1.length<4398046511104 then(if 1≤(x1_1.length:Int) then(impl_natural.l0 kj4 x0_1 (x1_1.drop 1) (x5_1++[(⟨(rd_T61 x1_1 0).f0,(rd_T61 x1_1 0).f1⟩:S61)])) else(none)) else(none)) else(if x5_1.length<4398046511104 then(if 1≤(x0_1.length:Int) then(if 1≤(x1_1.length:Int) then(impl_natural.l0 kj4 (x0_1.drop 1) (x1_1.drop 1) (x5_1++[(⟨wrap64 (((rd_T61 x0_1 0).f0)+((rd_T61 x1_1 0).f0)),(rd_T61 x0_1 0).f1⟩:S61)])) else(none)) else(none)) else(none))))=some r:=H
        have A13:=Aside0.mk A130
        clear A130
        by_cases c14:t712>0
        ·rw[if_pos c14] at H
         have c14b0:decide (0<t712)=true:=decide_eq_true c14
         clear c14
         by_cases c15:x5_1.length<4398046511104
         ·rw[if_pos c15] at H
          have LMc15:=Aside0.mk c15
          clear c15
          obtain⟨y714,hy714⟩:∃ y_:List (S61),y_=(x5_1++[(⟨(rd_T61 x0_1 0).f0,(rd_T61 x0_1 0).f1⟩:S61)]):=⟨_,rfl⟩
          replace H:(if 1≤(x0_1.length:Int) then(impl_natural.l0 kj4 (x0_1.drop 1) x1_1 y714) else(none))=some r:=hz hy714 H
          have Ny714:=Aside0.mk hy714
          clear hy714
          by_cases c16:1≤(x0_1.length:Int)
          ·rw[if_pos c16] at H
           have c16b0:=eq_true c16
           have c16b1:decide (1≤(x0_1.length:Int))=true:=decide_eq_true c16
           clear c16
           obtain⟨y717,hy717⟩:∃ y_:List (S61),y_=(x0_1.drop 1):=⟨_,rfl⟩
           replace H:(impl_natural.l0 kj4 y717 x1_1 y714)=some r:=hz hy717 H
           have Ny717:=Aside0.mk hy717
           clear hy717
           have H':=Aside0.mk H
           clear H
           try go_wp2
           have n0_:=Aside0.mk (Kd.V_drew HO_0.out)
           have n1_:=Aside0.mk (Kd.V_drew HO_1.out)
           have n2_:=Aside0.mk (Kd.N_drew HO_5.out)
           have n3_:=Aside0.mk (below_drew1 HB.out)
           clear HO_0
           clear HO_1
           clear HO_5
           clear HB
           have HO_0:=n0_
           have HO_1:=n1_
           have HO_5:=n2_
           have HB:=n3_
           clear n0_ n1_ n2_ n3_
           obtain⟨Ao18,co18,eo18⟩:=Kd.V_slice HO_0.out
           (first|subst eo18|(injection eo18 with f1_ f2_ f3_;have f4_:=f1_.symm;have f5_:=f3_.symm;clear f1_ f2_ f3_;subst f4_;subst f5_))
           have p710:0≤(0:Int):=(by omega)
           have q710:0<(x0_1.length:Int):=dz
           obtain⟨ad710,A710_1,c710_1,e710,hx710_0,hx710_1,hl710_1,hi710_1⟩:=at_T61 (Kd.V_reads' HO_0.out).2.2 0 p710 q710
           cases e710
           obtain⟨ce710,hce710,hMe710,hcc710⟩:=Kd.V_get HO_0.out z61 0 p710 (by first|exact q710|exact dz|(have e_:=(Kd.V_reads' HO_0.out).1;omega))
           obtain⟨ua710_1,uc710_1,rfl,ul710_1,ge710_1⟩:=k61_openF hMe710
           have hv710_1:=hcc710 1 _ rfl
           rw[add_field _ _ 1 (by omega)] at hv710_1
           replace hv710_1:=Option.some.inj (hv710_1.symm.trans hx710_1)
           injection hv710_1 with hva_ hvn_ hvc_
           rw[hva_] at ge710_1
           rw[hvc_] at ul710_1
           have HL710_1:=Aside0.mk (show Kd.V k61 61 _ w.heap.size _ _ ((rd_T61 x0_1 0).f1) from Kd.V_mk ul710_1 ge710_1)
           clear hva_ hvn_ hvc_ ge710_1 ul710_1
           clear hcc710 hce710
           have qi710:(0<x0_1.length)=True:=eq_true (by omega)
           (try rw[show ((0:Int)).toNat=0 from rfl] at hx710_0)
           (try rw[show 0*2=0 from rfl] at hx710_0)
           (try rw[Addr.add_zero'] at hx710_0)
           (try rw[show ((0:Int)).toNat=0 from rfl] at hx710_1)
           (try rw[show 0*2=0 from rfl] at hx710_1)
           (try rw[Addr.add_zero'] at hx710_1)
           have HR710_1:=Aside0.mk hi710_1
           have HC710_1:=Aside0.mk hl710_1
           clear hi710_1 hl710_1
           replace p710:=eq_true p710
           replace q710:=eq_true q710
           obtain⟨Ao19,co19,eo19⟩:=Kd.V_slice HO_1.out
           (first|subst eo19|(injection eo19 with f1_ f2_ f3_;have f4_:=f1_.symm;have f5_:=f3_.symm;clear f1_ f2_ f3_;subst f4_;subst f5_))
           have p711:0≤(0:Int):=(by omega)
           have q711:0<(x1_1.length:Int):=dz
           obtain⟨ad711,A711_1,c711_1,e711,hx711_0,hx711_1,hl711_1,hi711_1⟩:=at_T61 (Kd.V_reads' HO_1.out).2.2 0 p711 q711
           cases e711
           obtain⟨ce711,hce711,hMe711,hcc711⟩:=Kd.V_get HO_1.out z61 0 p711 (by first|exact q711|exact dz|(have e_:=(Kd.V_reads' HO_1.out).1;omega))
           obtain⟨ua711_1,uc711_1,rfl,ul711_1,ge711_1⟩:=k61_openF hMe711
           have hv711_1:=hcc711 1 _ rfl
           rw[add_field _ _ 1 (by omega)] at hv711_1
           replace hv711_1:=Option.some.inj (hv711_1.symm.trans hx711_1)
           injection hv711_1 with hva_ hvn_ hvc_
           rw[hva_] at ge711_1
           rw[hvc_] at ul711_1
           have HL711_1:=Aside0.mk (show Kd.V k61 61 _ w.heap.size _ _ ((rd_T61 x1_1 0).f1) from Kd.V_mk ul711_1 ge711_1)
           clear hva_ hvn_ hvc_ ge711_1 ul711_1
           clear hcc711 hce711
           have qi711:(0<x1_1.length)=True:=eq_true (by omega)
           (try rw[show ((0:Int)).toNat=0 from rfl] at hx711_0)
           (try rw[show 0*2=0 from rfl] at hx711_0)
           (try rw[Addr.add_zero'] at hx711_0)
           (try rw[show ((0:Int)).toNat=0 from rfl] at hx711_1)
           (try rw[show 0*2=0 from rfl] at hx711_1)
           (try rw[Addr.add_zero'] at hx711_1)
           have HR711_1:=Aside0.mk hi711_1
           have HC711_1:=Aside0.mk hl711_1
           clear hi711_1 hl711_1
           replace p711:=eq_true p711
           replace q711:=eq_true q711
           refine start_ (n:=10) (S:=fun w'=>w'.cell? ad710=some (.int .i64 ((rd_T61 x0_1 0).f0))∧w'.cell? ⟨ad710.block,ad710.off+1,none⟩=some (.slice A710_1 ((rd_T61 x0_1 0).f1).length c710_1)∧w'.cell? ad711=some (.int .i64 ((rd_T61 x1_1 0).f0))∧w'.cell? ⟨ad711.block,ad711.off+1,none⟩=some (.slice A711_1 ((rd_T61 x1_1 0).f1).length c711_1)) (ds:=[]) #[F,F,F,F,F,F,F,F,F,F] (by kernel_rfl) rfl rfl ⟨hx710_0,hx710_1,hx711_0,hx711_1⟩ (fun hHeld=>?_);refine with_tabW impl_natural.tab3 impl_natural.bits3 (fun HT_ HW_=>?_)
           generalize wc.drew=w17 at HO_0 HO_1 HO_5 HB HL710_1 HL711_1 HR710_1 HR711_1 hx710_0 hx710_1 hx711_0 hx711_1 hHeld ⊢
           refine pq 0 (some 16) ?_ HT_.out rfl rfl (Or.inl ⟨by rfl,?_⟩) ?_ ?_ ?_
           rotate_left;(· intro w';go_simp;with_reducible rfl);rotate_left;(· simp only[Act.put,s1,s2,s3,i64_w,i32_w];rfl)
           refine pq 1 (some 17) ?_ HT_.out rfl rfl (Or.inl ⟨by rfl,?_⟩) ?_ ?_ ?_
           rotate_left;(· intro w';go_simp;with_reducible rfl);rotate_left;(· simp only[Act.put,s1,s2,s3,i64_w,i32_w];rfl)
           refine pq 2 (some 18) ?_ HT_.out rfl rfl (Or.inl ⟨by rfl,?_⟩) ?_ ?_ ?_
           rotate_left;(· intro w';go_simp;with_reducible rfl);rotate_left;(· simp only[Act.put,s1,s2,s3,i64_w,i32_w];rfl)
           refine pq 4 (some 20) ?_ HT_.out rfl rfl (Or.inl ⟨by rfl,?_⟩) ?_ ?_ ?_
           rotate_left;(· intro w';go_simp;with_reducible rfl);rotate_left;(· simp only[Act.put,s1,s2,s3,i64_w,i32_w];rfl)
           refine pq 5 (some 21) ?_ HT_.out rfl rfl (Or.inl ⟨by rfl,?_⟩) ?_ ?_ ?_
           rotate_left;(· intro w';go_simp;with_reducible rfl);rotate_left;(· simp only[Act.put,s1,s2,s3,i64_w,i32_w];rfl)
           refine pq 6 (some 22) ?_ HT_.out rfl rfl (Or.inl ⟨by rfl,?_⟩) ?_ ?_ ?_
           rotate_left;(· intro w';go_simp;with_reducible rfl);rotate_left;(· simp only[Act.put,s1,s2,s3,i64_w,i32_w];rfl)
           refine take_ (i:=3) (N:=some 19) (v:=?_) (a':=?_) #[T,T,T,T,T,T,T,F,F,F] rfl rfl (take_ofW HT_.out HW_.out (by kernel_rfl)) (fun _ _ _ h=>h) (Or.inl ⟨by rfl,?_⟩) hHeld ?_ ?_
           rotate_left;(· rintro w' ⟨s0,s1,s2,s3⟩;go_simp;with_reducible rfl);rotate_left;(· simp only[Act.put,s1,s2,s3,i64_w,i32_w];rfl)
           refine take_ (i:=7) (N:=some 23) (v:=?_) (a':=?_) #[T,T,T,T,T,T,T,T,F,F] rfl rfl (take_ofW HT_.out HW_.out (by kernel_rfl)) (fun _ _ _ h=>h) (Or.inl ⟨by rfl,?_⟩) hHeld ?_ ?_
           rotate_left;(· rintro w' ⟨s0,s1,s2,s3⟩;go_simp;with_reducible rfl);rotate_left;(· simp only[Act.put,s1,s2,s3,i64_w,i32_w];rfl)
           refine one_ (i:=8) (N:=some 24) #[T,T,T,T,T,T,T,T,T,F] rfl rfl (one_of HT_.out (by kernel_rfl)) (by decide) (fun K hK=>?_)
           refine goes_ Try.func50 (by kernel_rfl) rfl #[.slice A710_1 ((rd_T61 x0_1 0).f1).length c710_1,.slice A711_1 ((rd_T61 x1_1 0).f1).length c711_1] (by rfl) rfl rfl az ?_
           with_reducible refine(impl_compare.calls kj4 _ _ ((rd_T61 x0_1 0).f1) _ _ ((rd_T61 x1_1 0).f1) t712 _ ?side1 ?side2 ?side3 ?side4 A13.out).mono ?_
           (case side1=>repeat (first|exact(by repeat (first|(with_reducible exact HR710_1.out)|(with_reducible refine Kd.C_alloc ?_ _)|(with_reducible refine Kd.C_drewN ?_ _)|(with_reducible refine Kd.C_drew ?_)|exact HR710_1.out))|(with_reducible refine Kd.C_alloc ?_ _)|(with_reducible refine Kd.C_drewN ?_ _)|(with_reducible refine Kd.C_drew ?_)))
           (case side2=>exact HC710_1.out)
           (case side3=>repeat (first|exact(by repeat (first|(with_reducible exact HR711_1.out)|(with_reducible refine Kd.C_alloc ?_ _)|(with_reducible refine Kd.C_drewN ?_ _)|(with_reducible refine Kd.C_drew ?_)|exact HR711_1.out))|(with_reducible refine Kd.C_alloc ?_ _)|(with_reducible refine Kd.C_drewN ?_ _)|(with_reducible refine Kd.C_drew ?_)))
           (case side4=>exact HC711_1.out)
           rintro e w20 ⟨rfl,hb⟩
           have HS0_:=(hb.cell (World.block_lt_of_cell? _ _ (hHeld.1))).trans (hHeld.1)
           have HS1_:=(hb.cell (World.block_lt_of_cell? _ _ (hHeld.2.1))).trans (hHeld.2.1)
           have HS2_:=(hb.cell (World.block_lt_of_cell? _ _ (hHeld.2.2.1))).trans (hHeld.2.2.1)
           have HS3_:=(hb.cell (World.block_lt_of_cell? _ _ (hHeld.2.2.2))).trans (hHeld.2.2.2)
           refine⟨_,rfl,?_⟩
           have n0_:=Aside0.mk (Kd.V_below (Kd.Vz HO_0.out) hb)
           have n1_:=Aside0.mk (Kd.V_below (Kd.Vz HO_1.out) hb)
           have n2_:=Aside0.mk (Kd.N_below (Kd.Nz HO_5.out) hb)
           have n3_:=Aside0.mk (Kd.V_below (Kd.Vz HL710_1.out) hb)
           have n4_:=Aside0.mk (Kd.V_below (Kd.Vz HL711_1.out) hb)
           have n5_:=Aside0.mk (Kd.C_below (by repeat (first|(with_reducible exact HR710_1.out)|(with_reducible refine Kd.C_alloc ?_ _)|(with_reducible refine Kd.C_drewN ?_ _)|(with_reducible refine Kd.C_drew ?_)|exact HR710_1.out)) hb)
           have n6_:=Aside0.mk (Kd.C_below (by repeat (first|(with_reducible exact HR711_1.out)|(with_reducible refine Kd.C_alloc ?_ _)|(with_reducible refine Kd.C_drewN ?_ _)|(with_reducible refine Kd.C_drew ?_)|exact HR711_1.out)) hb)
           have n7_:=Aside0.mk (below_step bz hb)
           clear HO_0
           clear HO_1
           clear HO_5
           clear HL710_1
           clear HL711_1
           clear HR710_1
           clear HR711_1
           clear HB
           have HO_0:=n0_
           have HO_1:=n1_
           have HO_5:=n2_
           have HL710_1:=n3_
           have HL711_1:=n4_
           have HR710_1:=n5_
           have HR711_1:=n6_
           have HB:=n7_
           clear n0_ n1_ n2_ n3_ n4_ n5_ n6_ n7_
           (try clear hb)
           (try clear hb2)
           (try clear hk)
           (try clear hi)
           refine hK.out _ _ ⟨HS0_,HS1_,HS2_,HS3_⟩ (fun hHeld=>?_)
           clear hK K
           refine norm_ (a':=?_) ?_ ?_
           rotate_left
           ·show Act.put _ (some 24) _=_
            simp only[Act.put,s1,s2,s3,i64_w,i32_w]
            rfl
           refine pq 9 (some 6) ?_ HT_.out rfl rfl (Or.inl ⟨by rfl,?_⟩) ?_ ?_ ?_
           rotate_left;(· intro w';go_simp;with_reducible rfl);rotate_left;(· simp only[Act.put,s1,s2,s3,i64_w,i32_w];rfl)
           refine done_ (done_of HT_.out (by kernel_rfl)) ?_
           have p713:0≤(0:Int):=(by omega)
           have q713:0<(x0_1.length:Int):=dz
           obtain⟨ad713,A713_1,c713_1,e713,hx713_0,hx713_1,hl713_1,hi713_1⟩:=at_T61 (Kd.V_reads' HO_0.out).2.2 0 p713 q713
           obtain rfl:ad710=ad713:=(by injection e713)
           obtain⟨ce713,hce713,hMe713,hcc713⟩:=Kd.V_get HO_0.out z61 0 p713 (by first|exact q713|exact dz|(have e_:=(Kd.V_reads' HO_0.out).1;omega))
           obtain⟨ua713_1,uc713_1,rfl,ul713_1,ge713_1⟩:=k61_openF hMe713
           have hv713_1:=hcc713 1 _ rfl
           rw[add_field _ _ 1 (by omega)] at hv713_1
           replace hv713_1:=Option.some.inj (hv713_1.symm.trans hx713_1)
           injection hv713_1 with hva_ hvn_ hvc_
           rw[hva_] at ge713_1
           rw[hvc_] at ul713_1
           have HL713_1:=Aside0.mk (show Kd.V k61 61 _ w.heap.size _ _ ((rd_T61 x0_1 0).f1) from Kd.V_mk ul713_1 ge713_1)
           clear hva_ hvn_ hvc_ ge713_1 ul713_1
           clear hcc713 hce713
           have qi713:(0<x0_1.length)=True:=eq_true (by omega)
           (try rw[show ((0:Int)).toNat=0 from rfl] at hx713_0)
           (try rw[show 0*2=0 from rfl] at hx713_0)
           (try rw[Addr.add_zero'] at hx713_0)
           (try rw[show ((0:Int)).toNat=0 from rfl] at hx713_1)
           (try rw[show 0*2=0 from rfl] at hx713_1)
           (try rw[Addr.add_zero'] at hx713_1)
           (try (have he_:=Option.some.inj (hx713_1.symm.trans (show _=some (Value.slice A710_1 _ c710_1) from by assumption));injection he_ with ha_ hn_ hc_;clear hn_;subst ha_;subst hc_))
           have HR713_1:=Aside0.mk hi713_1
           have HC713_1:=Aside0.mk hl713_1
           clear hi713_1 hl713_1
           replace p713:=eq_true p713
           replace q713:=eq_true q713
           try go_wp2_with (first|((with_reducible refine gate_builtin (b:=.append) (xs:=#[.tmp 49,.tmp 53]) rfl ?_);at_builtin;refine Kd.N_append k61 (w0:=w) w.heap.size rfl (.tmp 49) (.tmp 53) 46 61 (.agg #[(.int .i64 0),(.slice none 0 0)]) 32 rfl Try.underlying46 info61 rfl (by decide) (by omega) u5 x5_1 (⟨(rd_T61 x0_1 0).f0,(rd_T61 x0_1 0).f1⟩:S61) [.int .i64 ((rd_T61 x0_1 0).f0),.slice A713_1 ((rd_T61 x0_1 0).f1).length c713_1] (fun k_=>((P0_ k_∨P1_ k_)∨w.heap.size≤k_)) (fun k_=>((fun k_=>((P0_ k_∨P1_ k_)∨w.heap.size≤k_))) k_∧some k_≠(u5:Value).ownBlock) rfl rfl ?aP (fun _ hk=>hk) ?aF ?aO ?aB ?aS ?aL ?_;(case aP=>exact(k61_mkF _ _ (⟨(rd_T61 x0_1 0).f0,(rd_T61 x0_1 0).f1⟩:S61) (Kd.V_reads' (Kd.V_mono (ok':=(fun k_=>((fun k_=>((P0_ k_∨P1_ k_)∨w.heap.size≤k_))) k_∧some k_≠(u5:Value).ownBlock)) (HL713_1.out) (fun k_ hk=>⟨hk.1,hk.2⟩))).2.1 (Kd.V_F (Kd.V_mono (ok':=(fun k_=>((fun k_=>((P0_ k_∨P1_ k_)∨w.heap.size≤k_))) k_∧some k_≠(u5:Value).ownBlock)) (HL713_1.out) (fun k_ hk=>⟨hk.1,hk.2⟩)))));(case aB=>exact bz);(case aF=>exact(fun k_ hk=>(.inr (Nat.le_trans (below_size bz) hk))));(case aO=>exact(Kd.Nz HO_5.out));(case aS=>exact(below_size bz));(case aL=>have:=LMc15.out;omega);intro v715 w21 ho hb hg hat;rw[← Ny714.out] at ho;replace HO_0:=Aside0.mk (Kd.V_afterv (ok:=(fun k_=>((P0_ k_∨P1_ k_)∨w.heap.size≤k_))) (Kd.Vz HO_0.out) hg hat);replace HO_1:=Aside0.mk (Kd.V_afterv (ok:=(fun k_=>((P0_ k_∨P1_ k_)∨w.heap.size≤k_))) (Kd.Vz HO_1.out) hg hat);replace HL710_1:=Aside0.mk (Kd.V_afterv (ok:=(fun k_=>((P0_ k_∨P1_ k_)∨w.heap.size≤k_))) (Kd.Vz HL710_1.out) hg hat);replace HL711_1:=Aside0.mk (Kd.V_afterv (ok:=(fun k_=>((P0_ k_∨P1_ k_)∨w.heap.size≤k_))) (Kd.Vz HL711_1.out) hg hat);replace HL713_1:=Aside0.mk (Kd.V_afterv (ok:=(fun k_=>((P0_ k_∨P1_ k_)∨w.heap.size≤k_))) (Kd.Vz HL713_1.out) hg hat);replace HB:=Aside0.mk (hb);have HO716:=Aside0.mk (ho);clear HO_5;clear ho hb hg hat;have q22:(1:Int)≤((x0_1.length:Int):Int):=dz;obtain⟨i022,hi022,_,hsz22,_⟩:=info_parts info61;have hroom22:x0_1.length≤co18:=(Kd.V_reads' HO_0.out).2.1;have hC22:Kd.F k61 _ _ (some ad710) x0_1.length x0_1:=(Kd.V_at (base:=w.heap.size) HO_0.out).2.2;have hcut22:=cut_from (P:=Try.prog) 46 61 .i64 Try.underlying46 hi022 2 hsz22 (some ad710) x0_1.length co18 1 (by omega) q22;have hr22:=Kd.F_cut (m:=(1:Int).toNat) (c:=co18) hC22 (by omega) hroom22;obtain⟨A22,hA22⟩:∃ Aq_,Aq_=(if co18=(1:Int).toNat then(some ad710) else((some ad710):Option Addr).map (·.add ((1:Int).toNat*2))):=⟨_,rfl⟩;obtain⟨c22,hc22⟩:∃ cq_,cq_=co18-(1:Int).toNat:=⟨_,rfl⟩;have hy22:y717.length=x0_1.length-(1:Int).toNat:=(by rw[Ny717.out,List.length_drop]<;>omega);rw[show (x0_1).drop (1:Int).toNat=y717 from Ny717.out.symm] at hr22;replace hr22:Kd.F k61 _ _ A22 y717.length y717:=(by rw[hA22];exact hr22);rw[← hy22,← hA22,← hc22] at hcut22;have HO721:=Aside0.mk (show Kd.V k61 61 _ w.heap.size _ (.slice A22 y717.length c22) y717 from Kd.V_mk (by rw[hy22,hc22];exact Nat.sub_le_sub_right hroom22 _) hr22);have HC721:=Aside0.mk (show y717.length≤c22 from by rw[hy22,hc22];exact Nat.sub_le_sub_right hroom22 _);clear hr22 hC22 hroom22 hi022 hsz22 hc22;have KY22:=Aside0.mk hy22;have KA22:=Aside0.mk hA22;clear hy22 hA22;replace q22:=eq_true q22))
           go_roundg kj4
           case measure=>have:=HK1.out;have:=HJ4.out;omega
           case rel=>exact⟨(y717),(x1_1),(y714),H',⟨by have:=HK1.out;have:=HJ4.out;omega⟩,⟨by(with_reducible repeat (first|apply Kd.V_alloc|apply Kd.V_drewN|apply Kd.V_drew));exact HO721.out⟩,⟨by(with_reducible repeat (first|apply Kd.V_alloc|apply Kd.V_drewN|apply Kd.V_drew));exact HO_1.out⟩,⟨by(with_reducible repeat (first|apply Kd.N_alloc|apply Kd.N_drewN|apply Kd.N_drew));exact HO716.out⟩,⟨bz⟩⟩
          ·rw[if_neg c16] at H
           exact absurd H (by simp)
         ·rw[if_neg c15] at H
          exact absurd H (by simp)
        ·rw[if_neg c14] at H
         have c14b0:decide (0<t712)=false:=decide_eq_false c14
         clear c14
         by_cases c23:t712<0
         ·rw[if_pos c23] at H
          have c23b0:decide (t712<0)=true:=decide_eq_true c23
          clear c23
          by_cases c24:x5_1.length<4398046511104
          ·rw[if_pos c24] at H
           have LMc24:=Aside0.mk c24
           clear c24
           obtain⟨y723,hy723⟩:∃ y_:List (S61),y_=(x5_1++[(⟨(rd_T61 x1_1 0).f0,(rd_T61 x1_1 0).f1⟩:S61)]):=⟨_,rfl⟩
           replace H:(if 1≤(x1_1.length:Int) then(impl_natural.l0 kj4 x0_1 (x1_1.drop 1) y723) else(none))=some r:=hz hy723 H
           have Ny723:=Aside0.mk hy723
           clear hy723
           by_cases c25:1≤(x1_1.length:Int)
           ·rw[if_pos c25] at H
            have c25b0:=eq_true c25
            have c25b1:decide (1≤(x1_1.length:Int))=true:=decide_eq_true c25
            clear c25
            obtain⟨y726,hy726⟩:∃ y_:List (S61),y_=(x1_1.drop 1):=⟨_,rfl⟩
            replace H:(impl_natural.l0 kj4 x0_1 y726 y723)=some r:=hz hy726 H
            have Ny726:=Aside0.mk hy726
            clear hy726
            have H':=Aside0.mk H
            clear H
            try go_wp2
            have n0_:=Aside0.mk (Kd.V_drew HO_0.out)
            have n1_:=Aside0.mk (Kd.V_drew HO_1.out)
            have n2_:=Aside0.mk (Kd.N_drew HO_5.out)
            have n3_:=Aside0.mk (below_drew1 HB.out)
            clear HO_0
            clear HO_1
            clear HO_5
            clear HB
            have HO_0:=n0_
            have HO_1:=n1_
            have HO_5:=n2_
            have HB:=n3_
            clear n0_ n1_ n2_ n3_
            obtain⟨Ao27,co27,eo27⟩:=Kd.V_slice HO_0.out
            (first|subst eo27|(injection eo27 with f1_ f2_ f3_;have f4_:=f1_.symm;have f5_:=f3_.symm;clear f1_ f2_ f3_;subst f4_;subst f5_))
            have p710:0≤(0:Int):=(by omega)
            have q710:0<(x0_1.length:Int):=dz
            obtain⟨ad710,A710_1,c710_1,e710,hx710_0,hx710_1,hl710_1,hi710_1⟩:=at_T61 (Kd.V_reads' HO_0.out).2.2 0 p710 q710
            cases e710
            obtain⟨ce710,hce710,hMe710,hcc710⟩:=Kd.V_get HO_0.out z61 0 p710 (by first|exact q710|exact dz|(have e_:=(Kd.V_reads' HO_0.out).1;omega))
            obtain⟨ua710_1,uc710_1,rfl,ul710_1,ge710_1⟩:=k61_openF hMe710
            have hv710_1:=hcc710 1 _ rfl
            rw[add_field _ _ 1 (by omega)] at hv710_1
            replace hv710_1:=Option.some.inj (hv710_1.symm.trans hx710_1)
            injection hv710_1 with hva_ hvn_ hvc_
            rw[hva_] at ge710_1
            rw[hvc_] at ul710_1
            have HL710_1:=Aside0.mk (show Kd.V k61 61 _ w.heap.size _ _ ((rd_T61 x0_1 0).f1) from Kd.V_mk ul710_1 ge710_1)
            clear hva_ hvn_ hvc_ ge710_1 ul710_1
            clear hcc710 hce710
            have qi710:(0<x0_1.length)=True:=eq_true (by omega)
            (try rw[show ((0:Int)).toNat=0 from rfl] at hx710_0)
            (try rw[show 0*2=0 from rfl] at hx710_0)
            (try rw[Addr.add_zero'] at hx710_0)
            (try rw[show ((0:Int)).toNat=0 from rfl] at hx710_1)
            (try rw[show 0*2=0 from rfl] at hx710_1)
            (try rw[Addr.add_zero'] at hx710_1)
            have HR710_1:=Aside0.mk hi710_1
            have HC710_1:=Aside0.mk hl710_1
            clear hi710_1 hl710_1
            replace p710:=eq_true p710
            replace q710:=eq_true q710
            obtain⟨Ao28,co28,eo28⟩:=Kd.V_slice HO_1.out
            (first|subst eo28|(injection eo28 with f1_ f2_ f3_;have f4_:=f1_.symm;have f5_:=f3_.symm;clear f1_ f2_ f3_;subst f4_;subst f5_))
            have p711:0≤(0:Int):=(by omega)
            have q711:0<(x1_1.length:Int):=dz
            obtain⟨ad711,A711_1,c711_1,e711,hx711_0,hx711_1,hl711_1,hi711_1⟩:=at_T61 (Kd.V_reads' HO_1.out).2.2 0 p711 q711
            cases e711
            obtain⟨ce711,hce711,hMe711,hcc711⟩:=Kd.V_get HO_1.out z61 0 p711 (by first|exact q711|exact dz|(have e_:=(Kd.V_reads' HO_1.out).1;omega))
            obtain⟨ua711_1,uc711_1,rfl,ul711_1,ge711_1⟩:=k61_openF hMe711
            have hv711_1:=hcc711 1 _ rfl
            rw[add_field _ _ 1 (by omega)] at hv711_1
            replace hv711_1:=Option.some.inj (hv711_1.symm.trans hx711_1)
            injection hv711_1 with hva_ hvn_ hvc_
            rw[hva_] at ge711_1
            rw[hvc_] at ul711_1
            have HL711_1:=Aside0.mk (show Kd.V k61 61 _ w.heap.size _ _ ((rd_T61 x1_1 0).f1) from Kd.V_mk ul711_1 ge711_1)
            clear hva_ hvn_ hvc_ ge711_1 ul711_1
            clear hcc711 hce711
            have qi711:(0<x1_1.length)=True:=eq_true (by omega)
            (try rw[show ((0:Int)).toNat=0 from rfl] at hx711_0)
            (try rw[show 0*2=0 from rfl] at hx711_0)
            (try rw[Addr.add_zero'] at hx711_0)
            (try rw[show ((0:Int)).toNat=0 from rfl] at hx711_1)
            (try rw[show 0*2=0 from rfl] at hx711_1)
            (try rw[Addr.add_zero'] at hx711_1)
            have HR711_1:=Aside0.mk hi711_1
            have HC711_1:=Aside0.mk hl711_1
            clear hi711_1 hl711_1
            replace p711:=eq_true p711
            replace q711:=eq_true q711
            refine start_ (n:=10) (S:=fun w'=>w'.cell? ad710=some (.int .i64 ((rd_T61 x0_1 0).f0))∧w'.cell? ⟨ad710.block,ad710.off+1,none⟩=some (.slice A710_1 ((rd_T61 x0_1 0).f1).length c710_1)∧w'.cell? ad711=some (.int .i64 ((rd_T61 x1_1 0).f0))∧w'.cell? ⟨ad711.block,ad711.off+1,none⟩=some (.slice A711_1 ((rd_T61 x1_1 0).f1).length c711_1)) (ds:=[]) #[F,F,F,F,F,F,F,F,F,F] (by kernel_rfl) rfl rfl ⟨hx710_0,hx710_1,hx711_0,hx711_1⟩ (fun hHeld=>?_);refine with_tabW impl_natural.tab3 impl_natural.bits3 (fun HT_ HW_=>?_)
            generalize wc.drew=w26 at HO_0 HO_1 HO_5 HB HL710_1 HL711_1 HR710_1 HR711_1 hx710_0 hx710_1 hx711_0 hx711_1 hHeld ⊢
            refine pq 0 (some 16) ?_ HT_.out rfl rfl (Or.inl ⟨by rfl,?_⟩) ?_ ?_ ?_
            rotate_left;(· intro w';go_simp;with_reducible rfl);rotate_left;(· simp only[Act.put,s1,s2,s3,i64_w,i32_w];rfl)
            refine pq 1 (some 17) ?_ HT_.out rfl rfl (Or.inl ⟨by rfl,?_⟩) ?_ ?_ ?_
            rotate_left;(· intro w';go_simp;with_reducible rfl);rotate_left;(· simp only[Act.put,s1,s2,s3,i64_w,i32_w];rfl)
            refine pq 2 (some 18) ?_ HT_.out rfl rfl (Or.inl ⟨by rfl,?_⟩) ?_ ?_ ?_
            rotate_left;(· intro w';go_simp;with_reducible rfl);rotate_left;(· simp only[Act.put,s1,s2,s3,i64_w,i32_w];rfl)
            refine pq 4 (some 20) ?_ HT_.out rfl rfl (Or.inl ⟨by rfl,?_⟩) ?_ ?_ ?_
            rotate_left;(· intro w';go_simp;with_reducible rfl);rotate_left;(· simp only[Act.put,s1,s2,s3,i64_w,i32_w];rfl)
            refine pq 5 (some 21) ?_ HT_.out rfl rfl (Or.inl ⟨by rfl,?_⟩) ?_ ?_ ?_
            rotate_left;(· intro w';go_simp;with_reducible rfl);rotate_left;(· simp only[Act.put,s1,s2,s3,i64_w,i32_w];rfl)
            refine pq 6 (some 22) ?_ HT_.out rfl rfl (Or.inl ⟨by rfl,?_⟩) ?_ ?_ ?_
            rotate_left;(· intro w';go_simp;with_reducible rfl);rotate_left;(· simp only[Act.put,s1,s2,s3,i64_w,i32_w];rfl)
            refine take_ (i:=3) (N:=some 19) (v:=?_) (a':=?_) #[T,T,T,T,T,T,T,F,F,F] rfl rfl (take_ofW HT_.out HW_.out (by kernel_rfl)) (fun _ _ _ h=>h) (Or.inl ⟨by rfl,?_⟩) hHeld ?_ ?_
            rotate_left;(· rintro w' ⟨s0,s1,s2,s3⟩;go_simp;with_reducible rfl);rotate_left;(· simp only[Act.put,s1,s2,s3,i64_w,i32_w];rfl)
            refine take_ (i:=7) (N:=some 23) (v:=?_) (a':=?_) #[T,T,T,T,T,T,T,T,F,F] rfl rfl (take_ofW HT_.out HW_.out (by kernel_rfl)) (fun _ _ _ h=>h) (Or.inl ⟨by rfl,?_⟩) hHeld ?_ ?_
            rotate_left;(· rintro w' ⟨s0,s1,s2,s3⟩;go_simp;with_reducible rfl);rotate_left;(· simp only[Act.put,s1,s2,s3,i64_w,i32_w];rfl)
            refine one_ (i:=8) (N:=some 24) #[T,T,T,T,T,T,T,T,T,F] rfl rfl (one_of HT_.out (by kernel_rfl)) (by decide) (fun K hK=>?_)
            refine goes_ Try.func50 (by kernel_rfl) rfl #[.slice A710_1 ((rd_T61 x0_1 0).f1).length c710_1,.slice A711_1 ((rd_T61 x1_1 0).f1).length c711_1] (by rfl) rfl rfl az ?_
            with_reducible refine(impl_compare.calls kj4 _ _ ((rd_T61 x0_1 0).f1) _ _ ((rd_T61 x1_1 0).f1) t712 _ ?side1 ?side2 ?side3 ?side4 A13.out).mono ?_
            (case side1=>repeat (first|exact(by repeat (first|(with_reducible exact HR710_1.out)|(with_reducible refine Kd.C_alloc ?_ _)|(with_reducible refine Kd.C_drewN ?_ _)|(with_reducible refine Kd.C_drew ?_)|exact HR710_1.out))|(with_reducible refine Kd.C_alloc ?_ _)|(with_reducible refine Kd.C_drewN ?_ _)|(with_reducible refine Kd.C_drew ?_)))
            (case side2=>exact HC710_1.out)
            (case side3=>repeat (first|exact(by repeat (first|(with_reducible exact HR711_1.out)|(with_reducible refine Kd.C_alloc ?_ _)|(with_reducible refine Kd.C_drewN ?_ _)|(with_reducible refine Kd.C_drew ?_)|exact HR711_1.out))|(with_reducible refine Kd.C_alloc ?_ _)|(with_reducible refine Kd.C_drewN ?_ _)|(with_reducible refine Kd.C_drew ?_)))
            (case side4=>exact HC711_1.out)
            rintro e w29 ⟨rfl,hb⟩
            have HS0_:=(hb.cell (World.block_lt_of_cell? _ _ (hHeld.1))).trans (hHeld.1)
            have HS1_:=(hb.cell (World.block_lt_of_cell? _ _ (hHeld.2.1))).trans (hHeld.2.1)
            have HS2_:=(hb.cell (World.block_lt_of_cell? _ _ (hHeld.2.2.1))).trans (hHeld.2.2.1)
            have HS3_:=(hb.cell (World.block_lt_of_cell? _ _ (hHeld.2.2.2))).trans (hHeld.2.2.2)
            refine⟨_,rfl,?_⟩
            have n0_:=Aside0.mk (Kd.V_below (Kd.Vz HO_0.out) hb)
            have n1_:=Aside0.mk (Kd.V_below (Kd.Vz HO_1.out) hb)
            have n2_:=Aside0.mk (Kd.N_below (Kd.Nz HO_5.out) hb)
            have n3_:=Aside0.mk (Kd.V_below (Kd.Vz HL710_1.out) hb)
            have n4_:=Aside0.mk (Kd.V_below (Kd.Vz HL711_1.out) hb)
            have n5_:=Aside0.mk (Kd.C_below (by repeat (first|(with_reducible exact HR710_1.out)|(with_reducible refine Kd.C_alloc ?_ _)|(with_reducible refine Kd.C_drewN ?_ _)|(with_reducible refine Kd.C_drew ?_)|exact HR710_1.out)) hb)
            have n6_:=Aside0.mk (Kd.C_below (by repeat (first|(with_reducible exact HR711_1.out)|(with_reducible refine Kd.C_alloc ?_ _)|(with_reducible refine Kd.C_drewN ?_ _)|(with_reducible refine Kd.C_drew ?_)|exact HR711_1.out)) hb)
            have n7_:=Aside0.mk (below_step bz hb)
            clear HO_0
            clear HO_1
            clear HO_5
            clear HL710_1
            clear HL711_1
            clear HR710_1
            clear HR711_1
            clear HB
            have HO_0:=n0_
            have HO_1:=n1_
            have HO_5:=n2_
            have HL710_1:=n3_
            have HL711_1:=n4_
            have HR710_1:=n5_
            have HR711_1:=n6_
            have HB:=n7_
            clear n0_ n1_ n2_ n3_ n4_ n5_ n6_ n7_
            (try clear hb)
            (try clear hb2)
            (try clear hk)
            (try clear hi)
            refine hK.out _ _ ⟨HS0_,HS1_,HS2_,HS3_⟩ (fun hHeld=>?_)
            clear hK K
            refine norm_ (a':=?_) ?_ ?_
            rotate_left
            ·show Act.put _ (some 24) _=_
             simp only[Act.put,s1,s2,s3,i64_w,i32_w]
             rfl
            refine pq 9 (some 6) ?_ HT_.out rfl rfl (Or.inl ⟨by rfl,?_⟩) ?_ ?_ ?_
            rotate_left;(· intro w';go_simp;with_reducible rfl);rotate_left;(· simp only[Act.put,s1,s2,s3,i64_w,i32_w];rfl)
            refine done_ (done_of HT_.out (by kernel_rfl)) ?_
            have p722:0≤(0:Int):=(by omega)
            have q722:0<(x1_1.length:Int):=dz
            obtain⟨ad722,A722_1,c722_1,e722,hx722_0,hx722_1,hl722_1,hi722_1⟩:=at_T61 (Kd.V_reads' HO_1.out).2.2 0 p722 q722
            obtain rfl:ad711=ad722:=(by injection e722)
            obtain⟨ce722,hce722,hMe722,hcc722⟩:=Kd.V_get HO_1.out z61 0 p722 (by first|exact q722|exact dz|(have e_:=(Kd.V_reads' HO_1.out).1;omega))
            obtain⟨ua722_1,uc722_1,rfl,ul722_1,ge722_1⟩:=k61_openF hMe722
            have hv722_1:=hcc722 1 _ rfl
            rw[add_field _ _ 1 (by omega)] at hv722_1
            replace hv722_1:=Option.some.inj (hv722_1.symm.trans hx722_1)
            injection hv722_1 with hva_ hvn_ hvc_
            rw[hva_] at ge722_1
            rw[hvc_] at ul722_1
            have HL722_1:=Aside0.mk (show Kd.V k61 61 _ w.heap.size _ _ ((rd_T61 x1_1 0).f1) from Kd.V_mk ul722_1 ge722_1)
            clear hva_ hvn_ hvc_ ge722_1 ul722_1
            clear hcc722 hce722
            have qi722:(0<x1_1.length)=True:=eq_true (by omega)
            (try rw[show ((0:Int)).toNat=0 from rfl] at hx722_0)
            (try rw[show 0*2=0 from rfl] at hx722_0)
            (try rw[Addr.add_zero'] at hx722_0)
            (try rw[show ((0:Int)).toNat=0 from rfl] at hx722_1)
            (try rw[show 0*2=0 from rfl] at hx722_1)
            (try rw[Addr.add_zero'] at hx722_1)
            (try (have he_:=Option.some.inj (hx722_1.symm.trans (show _=some (Value.slice A711_1 _ c711_1) from by assumption));injection he_ with ha_ hn_ hc_;clear hn_;subst ha_;subst hc_))
            have HR722_1:=Aside0.mk hi722_1
            have HC722_1:=Aside0.mk hl722_1
            clear hi722_1 hl722_1
            replace p722:=eq_true p722
            replace q722:=eq_true q722
            try go_wp2_with (first|((with_reducible refine gate_builtin (b:=.append) (xs:=#[.tmp 60,.tmp 64]) rfl ?_);at_builtin;refine Kd.N_append k61 (w0:=w) w.heap.size rfl (.tmp 60) (.tmp 64) 46 61 (.agg #[(.int .i64 0),(.slice none 0 0)]) 32 rfl Try.underlying46 info61 rfl (by decide) (by omega) u5 x5_1 (⟨(rd_T61 x1_1 0).f0,(rd_T61 x1_1 0).f1⟩:S61) [.int .i64 ((rd_T61 x1_1 0).f0),.slice A722_1 ((rd_T61 x1_1 0).f1).length c722_1] (fun k_=>((P0_ k_∨P1_ k_)∨w.heap.size≤k_)) (fun k_=>((fun k_=>((P0_ k_∨P1_ k_)∨w.heap.size≤k_))) k_∧some k_≠(u5:Value).ownBlock) rfl rfl ?aP (fun _ hk=>hk) ?aF ?aO ?aB ?aS ?aL ?_;(case aP=>exact(k61_mkF _ _ (⟨(rd_T61 x1_1 0).f0,(rd_T61 x1_1 0).f1⟩:S61) (Kd.V_reads' (Kd.V_mono (ok':=(fun k_=>((fun k_=>((P0_ k_∨P1_ k_)∨w.heap.size≤k_))) k_∧some k_≠(u5:Value).ownBlock)) (HL722_1.out) (fun k_ hk=>⟨hk.1,hk.2⟩))).2.1 (Kd.V_F (Kd.V_mono (ok':=(fun k_=>((fun k_=>((P0_ k_∨P1_ k_)∨w.heap.size≤k_))) k_∧some k_≠(u5:Value).ownBlock)) (HL722_1.out) (fun k_ hk=>⟨hk.1,hk.2⟩)))));(case aB=>exact bz);(case aF=>exact(fun k_ hk=>(.inr (Nat.le_trans (below_size bz) hk))));(case aO=>exact(Kd.Nz HO_5.out));(case aS=>exact(below_size bz));(case aL=>have:=LMc24.out;omega);intro v724 w30 ho hb hg hat;rw[← Ny723.out] at ho;replace HO_0:=Aside0.mk (Kd.V_afterv (ok:=(fun k_=>((P0_ k_∨P1_ k_)∨w.heap.size≤k_))) (Kd.Vz HO_0.out) hg hat);replace HO_1:=Aside0.mk (Kd.V_afterv (ok:=(fun k_=>((P0_ k_∨P1_ k_)∨w.heap.size≤k_))) (Kd.Vz HO_1.out) hg hat);replace HL710_1:=Aside0.mk (Kd.V_afterv (ok:=(fun k_=>((P0_ k_∨P1_ k_)∨w.heap.size≤k_))) (Kd.Vz HL710_1.out) hg hat);replace HL711_1:=Aside0.mk (Kd.V_afterv (ok:=(fun k_=>((P0_ k_∨P1_ k_)∨w.heap.size≤k_))) (Kd.Vz HL711_1.out) hg hat);replace HL722_1:=Aside0.mk (Kd.V_afterv (ok:=(fun k_=>((P0_ k_∨P1_ k_)∨w.heap.size≤k_))) (Kd.Vz HL722_1.out) hg hat);replace HB:=Aside0.mk (hb);have HO725:=Aside0.mk (ho);clear HO_5;clear ho hb hg hat;have q31:(1:Int)≤((x1_1.length:Int):Int):=dz;obtain⟨i031,hi031,_,hsz31,_⟩:=info_parts info61;have hroom31:x1_1.length≤co28:=(Kd.V_reads' HO_1.out).2.1;have hC31:Kd.F k61 _ _ (some ad711) x1_1.length x1_1:=(Kd.V_at (base:=w.heap.size) HO_1.out).2.2;have hcut31:=cut_from (P:=Try.prog) 46 61 .i64 Try.underlying46 hi031 2 hsz31 (some ad711) x1_1.length co28 1 (by omega) q31;have hr31:=Kd.F_cut (m:=(1:Int).toNat) (c:=co28) hC31 (by omega) hroom31;obtain⟨A31,hA31⟩:∃ Aq_,Aq_=(if co28=(1:Int).toNat then(some ad711) else((some ad711):Option Addr).map (·.add ((1:Int).toNat*2))):=⟨_,rfl⟩;obtain⟨c31,hc31⟩:∃ cq_,cq_=co28-(1:Int).toNat:=⟨_,rfl⟩;have hy31:y726.length=x1_1.length-(1:Int).toNat:=(by rw[Ny726.out,List.length_drop]<;>omega);rw[show (x1_1).drop (1:Int).toNat=y726 from Ny726.out.symm] at hr31;replace hr31:Kd.F k61 _ _ A31 y726.length y726:=(by rw[hA31];exact hr31);rw[← hy31,← hA31,← hc31] at hcut31;have HO730:=Aside0.mk (show Kd.V k61 61 _ w.heap.size _ (.slice A31 y726.length c31) y726 from Kd.V_mk (by rw[hy31,hc31];exact Nat.sub_le_sub_right hroom31 _) hr31);have HC730:=Aside0.mk (show y726.length≤c31 from by rw[hy31,hc31];exact Nat.sub_le_sub_right hroom31 _);clear hr31 hC31 hroom31 hi031 hsz31 hc31;have KY31:=Aside0.mk hy31;have KA31:=Aside0.mk hA31;clear hy31 hA31;replace q31:=eq_true q31))
            go_roundg kj4
            case measure=>have:=HK1.out;have:=HJ4.out;omega
            case rel=>exact⟨(x0_1),(y726),(y723),H',⟨by have:=HK1.out;have:=HJ4.out;omega⟩,⟨by(with_reducible repeat (first|apply Kd.V_alloc|apply Kd.V_drewN|apply Kd.V_drew));exact HO_0.out⟩,⟨by(with_reducible repeat (first|apply Kd.V_alloc|apply Kd.V_drewN|apply Kd.V_drew));exact HO730.out⟩,⟨by(with_reducible repeat (first|apply Kd.N_alloc|apply Kd.N_drewN|apply Kd.N_drew));exact HO725.out⟩,⟨bz⟩⟩
           ·rw[if_neg c25] at H
            exact absurd H (by simp)
          ·rw[if_neg c24] at H
           exact absurd H (by simp)
         ·rw[if_neg c23] at H
          have c23b0:decide (t712<0)=false:=decide_eq_false c23
          clear c23
          by_cases c32:x5_1.length<4398046511104
          ·rw[if_pos c32] at H
           have LMc32:=Aside0.mk c32
           clear c32
           obtain⟨y734,hy734⟩:∃ y_:List (S61),y_=(x5_1++[(⟨wrap64 (((rd_T61 x0_1 0).f0)+((rd_T61 x1_1 0).f0)),(rd_T61 x0_1 0).f1⟩:S61)]):=⟨_,rfl⟩
           replace H:(if 1≤(x0_1.length:Int) then(if 1≤(x1_1.length:Int) then(impl_natural.l0 kj4 (x0_1.drop 1) (x1_1.drop 1) y734) else(none)) else(none))=some r:=hz hy734 H
           have Ny734:=Aside0.mk hy734
           clear hy734
           by_cases c33:1≤(x0_1.length:Int)
           ·rw[if_pos c33] at H
            have c33b0:=eq_true c33
            have c33b1:decide (1≤(x0_1.length:Int))=true:=decide_eq_true c33
            clear c33
            obtain⟨y737,hy737⟩:∃ y_:List (S61),y_=(x0_1.drop 1):=⟨_,rfl⟩
            replace H:(if 1≤(x1_1.length:Int) then(impl_natural.l0 kj4 y737 (x1_1.drop 1) y734) else(none))=some r:=hz hy737 H
            have Ny737:=Aside0.mk hy737
            clear hy737
            by_cases c34:1≤(x1_1.length:Int)
            ·rw[if_pos c34] at H
             have c34b0:=eq_true c34
             have c34b1:decide (1≤(x1_1.length:Int))=true:=decide_eq_true c34
             clear c34
             obtain⟨y742,hy742⟩:∃ y_:List (S61),y_=(x1_1.drop 1):=⟨_,rfl⟩
             replace H:(impl_natural.l0 kj4 y737 y742 y734)=some r:=hz hy742 H
             have Ny742:=Aside0.mk hy742
             clear hy742
             have H':=Aside0.mk H
             clear H
             try go_wp2
             have n0_:=Aside0.mk (Kd.V_drew HO_0.out)
             have n1_:=Aside0.mk (Kd.V_drew HO_1.out)
             have n2_:=Aside0.mk (Kd.N_drew HO_5.out)
             have n3_:=Aside0.mk (below_drew1 HB.out)
             clear HO_0
             clear HO_1
             clear HO_5
             clear HB
             have HO_0:=n0_
             have HO_1:=n1_
             have HO_5:=n2_
             have HB:=n3_
             clear n0_ n1_ n2_ n3_
             obtain⟨Ao36,co36,eo36⟩:=Kd.V_slice HO_0.out
             (first|subst eo36|(injection eo36 with f1_ f2_ f3_;have f4_:=f1_.symm;have f5_:=f3_.symm;clear f1_ f2_ f3_;subst f4_;subst f5_))
             have p710:0≤(0:Int):=(by omega)
             have q710:0<(x0_1.length:Int):=dz
             obtain⟨ad710,A710_1,c710_1,e710,hx710_0,hx710_1,hl710_1,hi710_1⟩:=at_T61 (Kd.V_reads' HO_0.out).2.2 0 p710 q710
             cases e710
             obtain⟨ce710,hce710,hMe710,hcc710⟩:=Kd.V_get HO_0.out z61 0 p710 (by first|exact q710|exact dz|(have e_:=(Kd.V_reads' HO_0.out).1;omega))
             obtain⟨ua710_1,uc710_1,rfl,ul710_1,ge710_1⟩:=k61_openF hMe710
             have hv710_1:=hcc710 1 _ rfl
             rw[add_field _ _ 1 (by omega)] at hv710_1
             replace hv710_1:=Option.some.inj (hv710_1.symm.trans hx710_1)
             injection hv710_1 with hva_ hvn_ hvc_
             rw[hva_] at ge710_1
             rw[hvc_] at ul710_1
             have HL710_1:=Aside0.mk (show Kd.V k61 61 _ w.heap.size _ _ ((rd_T61 x0_1 0).f1) from Kd.V_mk ul710_1 ge710_1)
             clear hva_ hvn_ hvc_ ge710_1 ul710_1
             clear hcc710 hce710
             have qi710:(0<x0_1.length)=True:=eq_true (by omega)
             (try rw[show ((0:Int)).toNat=0 from rfl] at hx710_0)
             (try rw[show 0*2=0 from rfl] at hx710_0)
             (try rw[Addr.add_zero'] at hx710_0)
             (try rw[show ((0:Int)).toNat=0 from rfl] at hx710_1)
             (try rw[show 0*2=0 from rfl] at hx710_1)
             (try rw[Addr.add_zero'] at hx710_1)
             have HR710_1:=Aside0.mk hi710_1
             have HC710_1:=Aside0.mk hl710_1
             clear hi710_1 hl710_1
             replace p710:=eq_true p710
             replace q710:=eq_true q710
             obtain⟨Ao37,co37,eo37⟩:=Kd.V_slice HO_1.out
             (first|subst eo37|(injection eo37 with f1_ f2_ f3_;have f4_:=f1_.symm;have f5_:=f3_.symm;clear f1_ f2_ f3_;subst f4_;subst f5_))
             have p711:0≤(0:Int):=(by omega)
             have q711:0<(x1_1.length:Int):=dz
             obtain⟨ad711,A711_1,c711_1,e711,hx711_0,hx711_1,hl711_1,hi711_1⟩:=at_T61 (Kd.V_reads' HO_1.out).2.2 0 p711 q711
             cases e711
             obtain⟨ce711,hce711,hMe711,hcc711⟩:=Kd.V_get HO_1.out z61 0 p711 (by first|exact q711|exact dz|(have e_:=(Kd.V_reads' HO_1.out).1;omega))
             obtain⟨ua711_1,uc711_1,rfl,ul711_1,ge711_1⟩:=k61_openF hMe711
             have hv711_1:=hcc711 1 _ rfl
             rw[add_field _ _ 1 (by omega)] at hv711_1
             replace hv711_1:=Option.some.inj (hv711_1.symm.trans hx711_1)
             injection hv711_1 with hva_ hvn_ hvc_
             rw[hva_] at ge711_1
             rw[hvc_] at ul711_1
             have HL711_1:=Aside0.mk (show Kd.V k61 61 _ w.heap.size _ _ ((rd_T61 x1_1 0).f1) from Kd.V_mk ul711_1 ge711_1)
             clear hva_ hvn_ hvc_ ge711_1 ul711_1
             clear hcc711 hce711
             have qi711:(0<x1_1.length)=True:=eq_true (by omega)
             (try rw[show ((0:Int)).toNat=0 from rfl] at hx711_0)
             (try rw[show 0*2=0 from rfl] at hx711_0)
             (try rw[Addr.add_zero'] at hx711_0)
             (try rw[show ((0:Int)).toNat=0 from rfl] at hx711_1)
             (try rw[show 0*2=0 from rfl] at hx711_1)
             (try rw[Addr.add_zero'] at hx711_1)
             have HR711_1:=Aside0.mk hi711_1
             have HC711_1:=Aside0.mk hl711_1
             clear hi711_1 hl711_1
             replace p711:=eq_true p711
             replace q711:=eq_true q711
             refine start_ (n:=10) (S:=fun w'=>w'.cell? ad710=some (.int .i64 ((rd_T61 x0_1 0).f0))∧w'.cell? ⟨ad710.block,ad710.off+1,none⟩=some (.slice A710_1 ((rd_T61 x0_1 0).f1).length c710_1)∧w'.cell? ad711=some (.int .i64 ((rd_T61 x1_1 0).f0))∧w'.cell? ⟨ad711.block,ad711.off+1,none⟩=some (.slice A711_1 ((rd_T61 x1_1 0).f1).length c711_1)) (ds:=[]) #[F,F,F,F,F,F,F,F,F,F] (by kernel_rfl) rfl rfl ⟨hx710_0,hx710_1,hx711_0,hx711_1⟩ (fun hHeld=>?_);refine with_tabW impl_natural.tab3 impl_natural.bits3 (fun HT_ HW_=>?_)
             generalize wc.drew=w35 at HO_0 HO_1 HO_5 HB HL710_1 HL711_1 HR710_1 HR711_1 hx710_0 hx710_1 hx711_0 hx711_1 hHeld ⊢
             refine pq 0 (some 16) ?_ HT_.out rfl rfl (Or.inl ⟨by rfl,?_⟩) ?_ ?_ ?_
             rotate_left;(· intro w';go_simp;with_reducible rfl);rotate_left;(· simp only[Act.put,s1,s2,s3,i64_w,i32_w];rfl)
             refine pq 1 (some 17) ?_ HT_.out rfl rfl (Or.inl ⟨by rfl,?_⟩) ?_ ?_ ?_
             rotate_left;(· intro w';go_simp;with_reducible rfl);rotate_left;(· simp only[Act.put,s1,s2,s3,i64_w,i32_w];rfl)
             refine pq 2 (some 18) ?_ HT_.out rfl rfl (Or.inl ⟨by rfl,?_⟩) ?_ ?_ ?_
             rotate_left;(· intro w';go_simp;with_reducible rfl);rotate_left;(· simp only[Act.put,s1,s2,s3,i64_w,i32_w];rfl)
             refine pq 4 (some 20) ?_ HT_.out rfl rfl (Or.inl ⟨by rfl,?_⟩) ?_ ?_ ?_
             rotate_left;(· intro w';go_simp;with_reducible rfl);rotate_left;(· simp only[Act.put,s1,s2,s3,i64_w,i32_w];rfl)
             refine pq 5 (some 21) ?_ HT_.out rfl rfl (Or.inl ⟨by rfl,?_⟩) ?_ ?_ ?_
             rotate_left;(· intro w';go_simp;with_reducible rfl);rotate_left;(· simp only[Act.put,s1,s2,s3,i64_w,i32_w];rfl)
             refine pq 6 (some 22) ?_ HT_.out rfl rfl (Or.inl ⟨by rfl,?_⟩) ?_ ?_ ?_
             rotate_left;(· intro w';go_simp;with_reducible rfl);rotate_left;(· simp only[Act.put,s1,s2,s3,i64_w,i32_w];rfl)
             refine take_ (i:=3) (N:=some 19) (v:=?_) (a':=?_) #[T,T,T,T,T,T,T,F,F,F] rfl rfl (take_ofW HT_.out HW_.out (by kernel_rfl)) (fun _ _ _ h=>h) (Or.inl ⟨by rfl,?_⟩) hHeld ?_ ?_
             rotate_left;(· rintro w' ⟨s0,s1,s2,s3⟩;go_simp;with_reducible rfl);rotate_left;(· simp only[Act.put,s1,s2,s3,i64_w,i32_w];rfl)
             refine take_ (i:=7) (N:=some 23) (v:=?_) (a':=?_) #[T,T,T,T,T,T,T,T,F,F] rfl rfl (take_ofW HT_.out HW_.out (by kernel_rfl)) (fun _ _ _ h=>h) (Or.inl ⟨by rfl,?_⟩) hHeld ?_ ?_
             rotate_left;(· rintro w' ⟨s0,s1,s2,s3⟩;go_simp;with_reducible rfl);rotate_left;(· simp only[Act.put,s1,s2,s3,i64_w,i32_w];rfl)
             refine one_ (i:=8) (N:=some 24) #[T,T,T,T,T,T,T,T,T,F] rfl rfl (one_of HT_.out (by kernel_rfl)) (by decide) (fun K hK=>?_)
             refine goes_ Try.func50 (by kernel_rfl) rfl #[.slice A710_1 ((rd_T61 x0_1 0).f1).length c710_1,.slice A711_1 ((rd_T61 x1_1 0).f1).length c711_1] (by rfl) rfl rfl az ?_
             with_reducible refine(impl_compare.calls kj4 _ _ ((rd_T61 x0_1 0).f1) _ _ ((rd_T61 x1_1 0).f1) t712 _ ?side1 ?side2 ?side3 ?side4 A13.out).mono ?_
             (case side1=>repeat (first|exact(by repeat (first|(with_reducible exact HR710_1.out)|(with_reducible refine Kd.C_alloc ?_ _)|(with_reducible refine Kd.C_drewN ?_ _)|(with_reducible refine Kd.C_drew ?_)|exact HR710_1.out))|(with_reducible refine Kd.C_alloc ?_ _)|(with_reducible refine Kd.C_drewN ?_ _)|(with_reducible refine Kd.C_drew ?_)))
             (case side2=>exact HC710_1.out)
             (case side3=>repeat (first|exact(by repeat (first|(with_reducible exact HR711_1.out)|(with_reducible refine Kd.C_alloc ?_ _)|(with_reducible refine Kd.C_drewN ?_ _)|(with_reducible refine Kd.C_drew ?_)|exact HR711_1.out))|(with_reducible refine Kd.C_alloc ?_ _)|(with_reducible refine Kd.C_drewN ?_ _)|(with_reducible refine Kd.C_drew ?_)))
             (case side4=>exact HC711_1.out)
             rintro e w38 ⟨rfl,hb⟩
             have HS0_:=(hb.cell (World.block_lt_of_cell? _ _ (hHeld.1))).trans (hHeld.1)
             have HS1_:=(hb.cell (World.block_lt_of_cell? _ _ (hHeld.2.1))).trans (hHeld.2.1)
             have HS2_:=(hb.cell (World.block_lt_of_cell? _ _ (hHeld.2.2.1))).trans (hHeld.2.2.1)
             have HS3_:=(hb.cell (World.block_lt_of_cell? _ _ (hHeld.2.2.2))).trans (hHeld.2.2.2)
             refine⟨_,rfl,?_⟩
             have n0_:=Aside0.mk (Kd.V_below (Kd.Vz HO_0.out) hb)
             have n1_:=Aside0.mk (Kd.V_below (Kd.Vz HO_1.out) hb)
             have n2_:=Aside0.mk (Kd.N_below (Kd.Nz HO_5.out) hb)
             have n3_:=Aside0.mk (Kd.V_below (Kd.Vz HL710_1.out) hb)
             have n4_:=Aside0.mk (Kd.V_below (Kd.Vz HL711_1.out) hb)
             have n5_:=Aside0.mk (Kd.C_below (by repeat (first|(with_reducible exact HR710_1.out)|(with_reducible refine Kd.C_alloc ?_ _)|(with_reducible refine Kd.C_drewN ?_ _)|(with_reducible refine Kd.C_drew ?_)|exact HR710_1.out)) hb)
             have n6_:=Aside0.mk (Kd.C_below (by repeat (first|(with_reducible exact HR711_1.out)|(with_reducible refine Kd.C_alloc ?_ _)|(with_reducible refine Kd.C_drewN ?_ _)|(with_reducible refine Kd.C_drew ?_)|exact HR711_1.out)) hb)
             have n7_:=Aside0.mk (below_step bz hb)
             clear HO_0
             clear HO_1
             clear HO_5
             clear HL710_1
             clear HL711_1
             clear HR710_1
             clear HR711_1
             clear HB
             have HO_0:=n0_
             have HO_1:=n1_
             have HO_5:=n2_
             have HL710_1:=n3_
             have HL711_1:=n4_
             have HR710_1:=n5_
             have HR711_1:=n6_
             have HB:=n7_
             clear n0_ n1_ n2_ n3_ n4_ n5_ n6_ n7_
             (try clear hb)
             (try clear hb2)
             (try clear hk)
             (try clear hi)
             refine hK.out _ _ ⟨HS0_,HS1_,HS2_,HS3_⟩ (fun hHeld=>?_)
             clear hK K
             refine norm_ (a':=?_) ?_ ?_
             rotate_left
             ·show Act.put _ (some 24) _=_
              simp only[Act.put,s1,s2,s3,i64_w,i32_w]
              rfl
             refine pq 9 (some 6) ?_ HT_.out rfl rfl (Or.inl ⟨by rfl,?_⟩) ?_ ?_ ?_
             rotate_left;(· intro w';go_simp;with_reducible rfl);rotate_left;(· simp only[Act.put,s1,s2,s3,i64_w,i32_w];rfl)
             refine done_ (done_of HT_.out (by kernel_rfl)) ?_
             try go_wp2
             have n0_:=Aside0.mk (Kd.V_drew HO_0.out)
             have n1_:=Aside0.mk (Kd.V_drew HO_1.out)
             have n2_:=Aside0.mk (Kd.N_drew HO_5.out)
             have n3_:=Aside0.mk (Kd.V_drew HL710_1.out)
             have n4_:=Aside0.mk (Kd.V_drew HL711_1.out)
             have n5_:=Aside0.mk (Kd.C_drew HR710_1.out)
             have n6_:=Aside0.mk (Kd.C_drew HR711_1.out)
             have n7_:=Aside0.mk (below_drew1 HB.out)
             clear HO_0
             clear HO_1
             clear HO_5
             clear HL710_1
             clear HL711_1
             clear HR710_1
             clear HR711_1
             clear HB
             have HO_0:=n0_
             have HO_1:=n1_
             have HO_5:=n2_
             have HL710_1:=n3_
             have HL711_1:=n4_
             have HR710_1:=n5_
             have HR711_1:=n6_
             have HB:=n7_
             clear n0_ n1_ n2_ n3_ n4_ n5_ n6_ n7_
             have p731:0≤(0:Int):=(by omega)
             have q731:0<(x0_1.length:Int):=dz
             obtain⟨ad731,A731_1,c731_1,e731,hx731_0,hx731_1,hl731_1,hi731_1⟩:=at_T61 (Kd.V_reads' HO_0.out).2.2 0 p731 q731
             obtain rfl:ad710=ad731:=(by injection e731)
             obtain⟨ce731,hce731,hMe731,hcc731⟩:=Kd.V_get HO_0.out z61 0 p731 (by first|exact q731|exact dz|(have e_:=(Kd.V_reads' HO_0.out).1;omega))
             obtain⟨ua731_1,uc731_1,rfl,ul731_1,ge731_1⟩:=k61_openF hMe731
             have hv731_1:=hcc731 1 _ rfl
             rw[add_field _ _ 1 (by omega)] at hv731_1
             replace hv731_1:=Option.some.inj (hv731_1.symm.trans hx731_1)
             injection hv731_1 with hva_ hvn_ hvc_
             rw[hva_] at ge731_1
             rw[hvc_] at ul731_1
             have HL731_1:=Aside0.mk (show Kd.V k61 61 _ w.heap.size _ _ ((rd_T61 x0_1 0).f1) from Kd.V_mk ul731_1 ge731_1)
             clear hva_ hvn_ hvc_ ge731_1 ul731_1
             clear hcc731 hce731
             have qi731:(0<x0_1.length)=True:=eq_true (by omega)
             (try rw[show ((0:Int)).toNat=0 from rfl] at hx731_0)
             (try rw[show 0*2=0 from rfl] at hx731_0)
             (try rw[Addr.add_zero'] at hx731_0)
             (try rw[show ((0:Int)).toNat=0 from rfl] at hx731_1)
             (try rw[show 0*2=0 from rfl] at hx731_1)
             (try rw[Addr.add_zero'] at hx731_1)
             (try (have he_:=Option.some.inj (hx731_1.symm.trans (show _=some (Value.slice A710_1 _ c710_1) from by assumption));injection he_ with ha_ hn_ hc_;clear hn_;subst ha_;subst hc_))
             have HR731_1:=Aside0.mk hi731_1
             have HC731_1:=Aside0.mk hl731_1
             clear hi731_1 hl731_1
             replace p731:=eq_true p731
             replace q731:=eq_true q731
             have p732:0≤(0:Int):=(by omega)
             have q732:0<(x1_1.length:Int):=dz
             obtain⟨ad732,A732_1,c732_1,e732,hx732_0,hx732_1,hl732_1,hi732_1⟩:=at_T61 (Kd.V_reads' HO_1.out).2.2 0 p732 q732
             obtain rfl:ad711=ad732:=(by injection e732)
             obtain⟨ce732,hce732,hMe732,hcc732⟩:=Kd.V_get HO_1.out z61 0 p732 (by first|exact q732|exact dz|(have e_:=(Kd.V_reads' HO_1.out).1;omega))
             obtain⟨ua732_1,uc732_1,rfl,ul732_1,ge732_1⟩:=k61_openF hMe732
             have hv732_1:=hcc732 1 _ rfl
             rw[add_field _ _ 1 (by omega)] at hv732_1
             replace hv732_1:=Option.some.inj (hv732_1.symm.trans hx732_1)
             injection hv732_1 with hva_ hvn_ hvc_
             rw[hva_] at ge732_1
             rw[hvc_] at ul732_1
             have HL732_1:=Aside0.mk (show Kd.V k61 61 _ w.heap.size _ _ ((rd_T61 x1_1 0).f1) from Kd.V_mk ul732_1 ge732_1)
             clear hva_ hvn_ hvc_ ge732_1 ul732_1
             clear hcc732 hce732
             have qi732:(0<x1_1.length)=True:=eq_true (by omega)
             (try rw[show ((0:Int)).toNat=0 from rfl] at hx732_0)
             (try rw[show 0*2=0 from rfl] at hx732_0)
             (try rw[Addr.add_zero'] at hx732_0)
             (try rw[show ((0:Int)).toNat=0 from rfl] at hx732_1)
             (try rw[show 0*2=0 from rfl] at hx732_1)
             (try rw[Addr.add_zero'] at hx732_1)
             (try (have he_:=Option.some.inj (hx732_1.symm.trans (show _=some (Value.slice A711_1 _ c711_1) from by assumption));injection he_ with ha_ hn_ hc_;clear hn_;subst ha_;subst hc_))
             have HR732_1:=Aside0.mk hi732_1
             have HC732_1:=Aside0.mk hl732_1
             clear hi732_1 hl732_1
             replace p732:=eq_true p732
             replace q732:=eq_true q732
             have p733:0≤(0:Int):=(by omega)
             have q733:0<(x0_1.length:Int):=dz
             obtain⟨ad733,A733_1,c733_1,e733,hx733_0,hx733_1,hl733_1,hi733_1⟩:=at_T61 (Kd.V_reads' HO_0.out).2.2 0 p733 q733
             obtain rfl:ad710=ad733:=(by injection e733)
             obtain⟨ce733,hce733,hMe733,hcc733⟩:=Kd.V_get HO_0.out z61 0 p733 (by first|exact q733|exact dz|(have e_:=(Kd.V_reads' HO_0.out).1;omega))
             obtain⟨ua733_1,uc733_1,rfl,ul733_1,ge733_1⟩:=k61_openF hMe733
             have hv733_1:=hcc733 1 _ rfl
             rw[add_field _ _ 1 (by omega)] at hv733_1
             replace hv733_1:=Option.some.inj (hv733_1.symm.trans hx733_1)
             injection hv733_1 with hva_ hvn_ hvc_
             rw[hva_] at ge733_1
             rw[hvc_] at ul733_1
             have HL733_1:=Aside0.mk (show Kd.V k61 61 _ w.heap.size _ _ ((rd_T61 x0_1 0).f1) from Kd.V_mk ul733_1 ge733_1)
             clear hva_ hvn_ hvc_ ge733_1 ul733_1
             clear hcc733 hce733
             have qi733:(0<x0_1.length)=True:=eq_true (by omega)
             (try rw[show ((0:Int)).toNat=0 from rfl] at hx733_0)
             (try rw[show 0*2=0 from rfl] at hx733_0)
             (try rw[Addr.add_zero'] at hx733_0)
             (try rw[show ((0:Int)).toNat=0 from rfl] at hx733_1)
             (try rw[show 0*2=0 from rfl] at hx733_1)
             (try rw[Addr.add_zero'] at hx733_1)
             have HR733_1:=Aside0.mk hi733_1
             have HC733_1:=Aside0.mk hl733_1
             clear hi733_1 hl733_1
             replace p733:=eq_true p733
             replace q733:=eq_true q733
             have ea_:=Option.some.inj (hx731_1.symm.trans hx733_1)
             injection ea_ with ea_ en_ ec_
             subst ea_
             subst ec_
             clear en_
             refine start_ (n:=18) (S:=fun w'=>w'.cell? ad710=some (.int .i64 ((rd_T61 x0_1 0).f0))∧w'.cell? ⟨ad710.block,ad710.off+1,none⟩=some (.slice A731_1 ((rd_T61 x0_1 0).f1).length c731_1)∧w'.cell? ad711=some (.int .i64 ((rd_T61 x1_1 0).f0))∧w'.cell? ⟨ad711.block,ad711.off+1,none⟩=some (.slice A732_1 ((rd_T61 x1_1 0).f1).length c732_1)∧w'.cell? ad710=some (.int .i64 ((rd_T61 x0_1 0).f0))∧w'.cell? ⟨ad710.block,ad710.off+1,none⟩=some (.slice A731_1 ((rd_T61 x0_1 0).f1).length c731_1)) (ds:=[15,16]) #[F,F,F,F,F,F,F,F,F,F,F,F,F,F,F,F,F,F] (by kernel_rfl) rfl rfl ⟨hx731_0,hx731_1,hx732_0,hx732_1,hx733_0,hx733_1⟩ (fun hHeld=>?_);refine with_tabW impl_natural.tab4 impl_natural.bits4 (fun HT_ HW_=>?_)
             generalize w38.drew=w39 at HO_0 HO_1 HO_5 HL710_1 HL711_1 HR710_1 HR711_1 HB HL731_1 HL732_1 HL733_1 HR731_1 HR732_1 HR733_1 hx731_0 hx731_1 hx732_0 hx732_1 hx733_0 hx733_1 hHeld ⊢
             refine pq 0 (some 25) ?_ HT_.out rfl rfl (Or.inl ⟨by rfl,?_⟩) ?_ ?_ ?_
             rotate_left;(· intro w';go_simp;with_reducible rfl);rotate_left;(· simp only[Act.put,s1,s2,s3,i64_w,i32_w];rfl)
             refine pq 1 (some 26) ?_ HT_.out rfl rfl (Or.inl ⟨by rfl,?_⟩) ?_ ?_ ?_
             rotate_left;(· intro w';go_simp;with_reducible rfl);rotate_left;(· simp only[Act.put,s1,s2,s3,i64_w,i32_w];rfl)
             refine pq 2 (some 27) ?_ HT_.out rfl rfl (Or.inl ⟨by rfl,?_⟩) ?_ ?_ ?_
             rotate_left;(· intro w';go_simp;with_reducible rfl);rotate_left;(· simp only[Act.put,s1,s2,s3,i64_w,i32_w];rfl)
             refine pq 3 (some 28) ?_ HT_.out rfl rfl (Or.inl ⟨by rfl,?_⟩) ?_ ?_ ?_
             rotate_left;(· intro w';go_simp;with_reducible rfl);rotate_left;(· simp only[Act.put,s1,s2,s3,i64_w,i32_w];rfl)
             refine pq 5 (some 30) ?_ HT_.out rfl rfl (Or.inl ⟨by rfl,?_⟩) ?_ ?_ ?_
             rotate_left;(· intro w';go_simp;with_reducible rfl);rotate_left;(· simp only[Act.put,s1,s2,s3,i64_w,i32_w];rfl)
             refine pq 6 (some 31) ?_ HT_.out rfl rfl (Or.inl ⟨by rfl,?_⟩) ?_ ?_ ?_
             rotate_left;(· intro w';go_simp;with_reducible rfl);rotate_left;(· simp only[Act.put,s1,s2,s3,i64_w,i32_w];rfl)
             refine pq 7 (some 32) ?_ HT_.out rfl rfl (Or.inl ⟨by rfl,?_⟩) ?_ ?_ ?_
             rotate_left;(· intro w';go_simp;with_reducible rfl);rotate_left;(· simp only[Act.put,s1,s2,s3,i64_w,i32_w];rfl)
             refine pq 10 (some 35) ?_ HT_.out rfl rfl (Or.inl ⟨by rfl,?_⟩) ?_ ?_ ?_
             rotate_left;(· intro w';go_simp;with_reducible rfl);rotate_left;(· simp only[Act.put,s1,s2,s3,i64_w,i32_w];rfl)
             refine pq 11 (some 36) ?_ HT_.out rfl rfl (Or.inl ⟨by rfl,?_⟩) ?_ ?_ ?_
             rotate_left;(· intro w';go_simp;with_reducible rfl);rotate_left;(· simp only[Act.put,s1,s2,s3,i64_w,i32_w];rfl)
             refine pq 12 (some 37) ?_ HT_.out rfl rfl (Or.inl ⟨by rfl,?_⟩) ?_ ?_ ?_
             rotate_left;(· intro w';go_simp;with_reducible rfl);rotate_left;(· simp only[Act.put,s1,s2,s3,i64_w,i32_w];rfl)
             refine take_ (i:=4) (N:=some 29) (v:=?_) (a':=?_) #[T,T,T,T,T,T,T,T,F,F,T,T,T,F,F,F,F,F] rfl rfl (take_ofW HT_.out HW_.out (by kernel_rfl)) (fun _ _ _ h=>h) (Or.inl ⟨by rfl,?_⟩) hHeld ?_ ?_
             rotate_left;(· rintro w' ⟨s0,s1,s2,s3,s4,s5⟩;go_simp;with_reducible rfl);rotate_left;(· simp only[Act.put,s1,s2,s3,i64_w,i32_w];rfl)
             refine take_ (i:=8) (N:=some 33) (v:=?_) (a':=?_) #[T,T,T,T,T,T,T,T,T,F,T,T,T,F,F,F,F,F] rfl rfl (take_ofW HT_.out HW_.out (by kernel_rfl)) (fun _ _ _ h=>h) (Or.inl ⟨by rfl,?_⟩) hHeld ?_ ?_
             rotate_left;(· rintro w' ⟨s0,s1,s2,s3,s4,s5⟩;go_simp;with_reducible rfl);rotate_left;(· simp only[Act.put,s1,s2,s3,i64_w,i32_w];rfl)
             refine pq 9 (some 34) ?_ HT_.out rfl rfl (Or.inl ⟨by rfl,?_⟩) ?_ ?_ ?_
             rotate_left;(· intro w';go_simp;with_reducible rfl);rotate_left;(· simp only[Act.put,s1,s2,s3,i64_w,i32_w];rfl)
             refine take_ (i:=13) (N:=some 38) (v:=?_) (a':=?_) #[T,T,T,T,T,T,T,T,T,T,T,T,T,T,F,F,F,F] rfl rfl (take_ofW HT_.out HW_.out (by kernel_rfl)) (fun _ _ _ h=>h) (Or.inl ⟨by rfl,?_⟩) hHeld ?_ ?_
             rotate_left;(· rintro w' ⟨s0,s1,s2,s3,s4,s5⟩;go_simp;with_reducible rfl);rotate_left;(· simp only[Act.put,s1,s2,s3,i64_w,i32_w];rfl)
             refine pq 14 (some 39) ?_ HT_.out rfl rfl (Or.inl ⟨by rfl,?_⟩) ?_ ?_ ?_
             rotate_left;(· intro w';go_simp;with_reducible rfl);rotate_left;(· simp only[Act.put,s1,s2,s3,i64_w,i32_w];rfl)
             refine last_ (i:=15) (N:=some 40) #[T,T,T,T,T,T,T,T,T,T,T,T,T,T,T,T,F,F] rfl rfl (one_of HT_.out (by kernel_rfl)) (by decide) (fun K hK=>?_)
             refine value_ (w1:=?_) (v:=?_) (by rfl) rfl ?_ ?_
             rotate_left 2
             ·go_simp
              constructor
              ·rfl
              ·rfl
             refine hK.out _ _ ?_
             clear hK K
             refine norm_ (a':=?_) ?_ ?_
             rotate_left
             ·show Act.put _ (some 40) _=_
              simp only[Act.put,s1,s2,s3,i64_w,i32_w]
              rfl
             refine last_ (i:=16) (N:=some 41) #[T,T,T,T,T,T,T,T,T,T,T,T,T,T,T,T,T,F] rfl rfl (one_of HT_.out (by kernel_rfl)) (by decide) (fun K hK=>?_)
             refine Kd.N_append_step k61 (w0:=w) w.heap.size (by rfl) (.tmp 25) (.tmp 40) 46 61 (.agg #[(.int .i64 0),(.slice none 0 0)]) 32 rfl Try.underlying46 info61 rfl (by decide) (by omega) u5 x5_1 (⟨wrap64 (((rd_T61 x0_1 0).f0)+((rd_T61 x1_1 0).f0)),(rd_T61 x0_1 0).f1⟩:S61) [.int .i64 (wrap64 (((rd_T61 x0_1 0).f0)+((rd_T61 x1_1 0).f0))),.slice A731_1 ((rd_T61 x0_1 0).f1).length c731_1] (fun k_=>((P0_ k_∨P1_ k_)∨w.heap.size≤k_)) (fun k_=>((fun k_=>((P0_ k_∨P1_ k_)∨w.heap.size≤k_))) k_∧some k_≠(u5:Value).ownBlock) rfl rfl ?aP (fun _ hk=>hk) ?aF ?aO ?aB ?aS ?aL ?_
             (case aP=>exact(k61_mkF _ _ (⟨wrap64 (((rd_T61 x0_1 0).f0)+((rd_T61 x1_1 0).f0)),(rd_T61 x0_1 0).f1⟩:S61) (Kd.V_reads' (Kd.V_mono (ok':=(fun k_=>((fun k_=>((P0_ k_∨P1_ k_)∨w.heap.size≤k_))) k_∧some k_≠(u5:Value).ownBlock)) (HL733_1.out) (fun k_ hk=>⟨hk.1,hk.2⟩))).2.1 (Kd.V_F (Kd.V_mono (ok':=(fun k_=>((fun k_=>((P0_ k_∨P1_ k_)∨w.heap.size≤k_))) k_∧some k_≠(u5:Value).ownBlock)) (HL733_1.out) (fun k_ hk=>⟨hk.1,hk.2⟩)))))
             (case aB=>exact bz)
             (case aF=>exact(fun k_ hk=>(.inr (Nat.le_trans (below_size bz) hk))))
             (case aO=>exact(Kd.Nz HO_5.out))
             (case aS=>exact(below_size bz))
             (case aL=>have:=LMc32.out;omega)
             intro v735 w40 ho hb hg hat
             rw[← Ny734.out] at ho
             have n0_:=Aside0.mk (Kd.V_afterv (ok:=(fun k_=>((P0_ k_∨P1_ k_)∨w.heap.size≤k_))) (Kd.Vz HO_0.out) hg hat)
             have n1_:=Aside0.mk (Kd.V_afterv (ok:=(fun k_=>((P0_ k_∨P1_ k_)∨w.heap.size≤k_))) (Kd.Vz HO_1.out) hg hat)
             have n2_:=Aside0.mk (Kd.V_afterv (ok:=(fun k_=>((P0_ k_∨P1_ k_)∨w.heap.size≤k_))) (Kd.Vz HL710_1.out) hg hat)
             have n3_:=Aside0.mk (Kd.V_afterv (ok:=(fun k_=>((P0_ k_∨P1_ k_)∨w.heap.size≤k_))) (Kd.Vz HL711_1.out) hg hat)
             have n4_:=Aside0.mk (Kd.V_afterv (ok:=(fun k_=>((P0_ k_∨P1_ k_)∨w.heap.size≤k_))) (Kd.Vz HL731_1.out) hg hat)
             have n5_:=Aside0.mk (Kd.V_afterv (ok:=(fun k_=>((P0_ k_∨P1_ k_)∨w.heap.size≤k_))) (Kd.Vz HL732_1.out) hg hat)
             have n6_:=Aside0.mk (Kd.V_afterv (ok:=(fun k_=>((P0_ k_∨P1_ k_)∨w.heap.size≤k_))) (Kd.Vz HL733_1.out) hg hat)
             have n7_:=Aside0.mk (hb)
             have n8_:=Aside0.mk (ho)
             clear HO_0
             clear HO_1
             clear HL710_1
             clear HL711_1
             clear HL731_1
             clear HL732_1
             clear HL733_1
             clear HB
             clear HO_5
             have HO_0:=n0_
             have HO_1:=n1_
             have HL710_1:=n2_
             have HL711_1:=n3_
             have HL731_1:=n4_
             have HL732_1:=n5_
             have HL733_1:=n6_
             have HB:=n7_
             have HO736:=n8_
             clear n0_ n1_ n2_ n3_ n4_ n5_ n6_ n7_ n8_
             clear ho hb hg hat
             refine hK.out _ _ ?_
             clear hK K
             refine norm_ (a':=?_) ?_ ?_
             rotate_left
             ·show Act.put _ (some 41) _=_
              simp only[Act.put,s1,s2,s3,i64_w,i32_w]
              rfl
             refine pq 17 (some 5) ?_ HT_.out rfl rfl (Or.inl ⟨by rfl,?_⟩) ?_ ?_ ?_
             rotate_left;(· intro w';go_simp;with_reducible rfl);rotate_left;(· simp only[Act.put,s1,s2,s3,i64_w,i32_w];rfl)
             refine done_ (done_of HT_.out (by kernel_rfl)) ?_
             try go_wp2
             have n0_:=Aside0.mk (Kd.V_drew HO_0.out)
             have n1_:=Aside0.mk (Kd.V_drew HO_1.out)
             have n2_:=Aside0.mk (Kd.V_drew HL710_1.out)
             have n3_:=Aside0.mk (Kd.V_drew HL711_1.out)
             have n4_:=Aside0.mk (Kd.V_drew HL731_1.out)
             have n5_:=Aside0.mk (Kd.V_drew HL732_1.out)
             have n6_:=Aside0.mk (Kd.V_drew HL733_1.out)
             have n7_:=Aside0.mk (Kd.N_drew HO736.out)
             have n8_:=Aside0.mk (below_drew1 HB.out)
             clear HO_0
             clear HO_1
             clear HL710_1
             clear HL711_1
             clear HL731_1
             clear HL732_1
             clear HL733_1
             clear HO736
             clear HB
             have HO_0:=n0_
             have HO_1:=n1_
             have HL710_1:=n2_
             have HL711_1:=n3_
             have HL731_1:=n4_
             have HL732_1:=n5_
             have HL733_1:=n6_
             have HO736:=n7_
             have HB:=n8_
             clear n0_ n1_ n2_ n3_ n4_ n5_ n6_ n7_ n8_
             have q42:(1:Int)≤((x0_1.length:Int):Int):=dz
             obtain⟨i042,hi042,_,hsz42,_⟩:=info_parts info61
             have hroom42:x0_1.length≤co36:=(Kd.V_reads' HO_0.out).2.1
             have hC42:Kd.F k61 _ _ (some ad710) x0_1.length x0_1:=(Kd.V_at (base:=w.heap.size) HO_0.out).2.2
             have hcut42:=cut_from (P:=Try.prog) 46 61 .i64 Try.underlying46 hi042 2 hsz42 (some ad710) x0_1.length co36 1 (by omega) q42
             have hr42:=Kd.F_cut (m:=(1:Int).toNat) (c:=co36) hC42 (by omega) hroom42
             obtain⟨A42,hA42⟩:∃ Aq_,Aq_=(if co36=(1:Int).toNat then(some ad710) else((some ad710):Option Addr).map (·.add ((1:Int).toNat*2))):=⟨_,rfl⟩
             obtain⟨c42,hc42⟩:∃ cq_,cq_=co36-(1:Int).toNat:=⟨_,rfl⟩
             have hy42:y737.length=x0_1.length-(1:Int).toNat:=(by rw[Ny737.out,List.length_drop]<;>omega)
             rw[show (x0_1).drop (1:Int).toNat=y737 from Ny737.out.symm] at hr42
             replace hr42:Kd.F k61 _ _ A42 y737.length y737:=(by rw[hA42];exact hr42)
             rw[← hy42,← hA42,← hc42] at hcut42
             have HO741:=Aside0.mk (show Kd.V k61 61 _ w.heap.size _ (.slice A42 y737.length c42) y737 from Kd.V_mk (by rw[hy42,hc42];exact Nat.sub_le_sub_right hroom42 _) hr42)
             have HC741:=Aside0.mk (show y737.length≤c42 from by rw[hy42,hc42];exact Nat.sub_le_sub_right hroom42 _)
             clear hr42 hC42 hroom42 hi042 hsz42 hc42
             have KY42:=Aside0.mk hy42
             have KA42:=Aside0.mk hA42
             clear hy42 hA42
             replace q42:=eq_true q42
             have q43:(1:Int)≤((x1_1.length:Int):Int):=dz
             obtain⟨i043,hi043,_,hsz43,_⟩:=info_parts info61
             have hroom43:x1_1.length≤co37:=(Kd.V_reads' HO_1.out).2.1
             have hC43:Kd.F k61 _ _ (some ad711) x1_1.length x1_1:=(Kd.V_at (base:=w.heap.size) HO_1.out).2.2
             have hcut43:=cut_from (P:=Try.prog) 46 61 .i64 Try.underlying46 hi043 2 hsz43 (some ad711) x1_1.length co37 1 (by omega) q43
             have hr43:=Kd.F_cut (m:=(1:Int).toNat) (c:=co37) hC43 (by omega) hroom43
             obtain⟨A43,hA43⟩:∃ Aq_,Aq_=(if co37=(1:Int).toNat then(some ad711) else((some ad711):Option Addr).map (·.add ((1:Int).toNat*2))):=⟨_,rfl⟩
             obtain⟨c43,hc43⟩:∃ cq_,cq_=co37-(1:Int).toNat:=⟨_,rfl⟩
             have hy43:y742.length=x1_1.length-(1:Int).toNat:=(by rw[Ny742.out,List.length_drop]<;>omega)
             rw[show (x1_1).drop (1:Int).toNat=y742 from Ny742.out.symm] at hr43
             replace hr43:Kd.F k61 _ _ A43 y742.length y742:=(by rw[hA43];exact hr43)
             rw[← hy43,← hA43,← hc43] at hcut43
             have HO746:=Aside0.mk (show Kd.V k61 61 _ w.heap.size _ (.slice A43 y742.length c43) y742 from Kd.V_mk (by rw[hy43,hc43];exact Nat.sub_le_sub_right hroom43 _) hr43)
             have HC746:=Aside0.mk (show y742.length≤c43 from by rw[hy43,hc43];exact Nat.sub_le_sub_right hroom43 _)
             clear hr43 hC43 hroom43 hi043 hsz43 hc43
             have KY43:=Aside0.mk hy43
             have KA43:=Aside0.mk hA43
             clear hy43 hA43
             replace q43:=eq_true q43
             refine start_ (n:=6) (S:=fun w'=>True) (ds:=[]) #[F,F,F,F,F,F] (by kernel_rfl) rfl rfl trivial (fun hHeld=>?_)
             generalize w40.drew=w41 at HO_0 HO_1 HL710_1 HL711_1 HL731_1 HL732_1 HL733_1 HO736 HB HO741 HO746 hHeld ⊢
             refine pure_ (i:=0) (N:=some 42) (v:=?_) (a':=?_) #[T,F,F,F,F,F] rfl rfl (by kernel_rfl) (fun _ _ _ h=>h) (Or.inl ⟨by rfl,?_⟩) ?_ ?_
             rotate_left;(· intro w';go_simp;with_reducible rfl);rotate_left;(· simp only[Act.put,s1,s2,s3,i64_w,i32_w];rfl)
             refine pure_ (i:=1) (N:=some 43) (v:=?_) (a':=?_) #[T,T,F,F,F,F] rfl rfl (by kernel_rfl) (fun _ _ _ h=>h) (Or.inl ⟨by rfl,?_⟩) ?_ ?_
             rotate_left;(· intro w';go_simp;with_reducible rfl);rotate_left;(· simp only[Act.put,s1,s2,s3,i64_w,i32_w];rfl)
             refine pure_ (i:=2) (N:=some 44) (v:=?_) (a':=?_) #[T,T,T,F,F,F] rfl rfl (by kernel_rfl) (fun _ _ _ h=>h) (Or.inl ⟨by rfl,?_⟩) ?_ ?_
             rotate_left;(· intro w';go_simp;with_reducible rfl);rotate_left;(· simp only[Act.put,s1,s2,s3,i64_w,i32_w];rfl)
             refine pure_ (i:=3) (N:=some 45) (v:=?_) (a':=?_) #[T,T,T,T,F,F] rfl rfl (by kernel_rfl) (fun _ _ _ h=>h) (Or.inl ⟨by rfl,?_⟩) ?_ ?_
             rotate_left;(· intro w';go_simp;with_reducible rfl);rotate_left;(· simp only[Act.put,s1,s2,s3,i64_w,i32_w];rfl)
             refine pure_ (i:=4) (N:=some 0) (v:=?_) (a':=?_) #[T,T,T,T,T,F] rfl rfl (by kernel_rfl) (fun _ _ _ h=>h) (Or.inl ⟨by rfl,?_⟩) ?_ ?_
             rotate_left;(· intro w';go_simp;with_reducible rfl);rotate_left;(· simp only[Act.put,s1,s2,s3,i64_w,i32_w];rfl)
             refine pure_ (i:=5) (N:=some 1) (v:=?_) (a':=?_) #[T,T,T,T,T,T] rfl rfl (by kernel_rfl) (fun _ _ _ h=>h) (Or.inl ⟨by rfl,?_⟩) ?_ ?_
             rotate_left;(· intro w';go_simp;with_reducible rfl);rotate_left;(· simp only[Act.put,s1,s2,s3,i64_w,i32_w];rfl)
             refine done_ (by kernel_rfl) ?_
             try go_wp2
             go_roundg kj4
             case measure=>have:=HK1.out;have:=HJ4.out;omega
             case rel=>exact⟨(y737),(y742),(y734),H',⟨by have:=HK1.out;have:=HJ4.out;omega⟩,⟨by(with_reducible repeat (first|apply Kd.V_alloc|apply Kd.V_drewN|apply Kd.V_drew));exact HO741.out⟩,⟨by(with_reducible repeat (first|apply Kd.V_alloc|apply Kd.V_drewN|apply Kd.V_drew));exact HO746.out⟩,⟨by(with_reducible repeat (first|apply Kd.N_alloc|apply Kd.N_drewN|apply Kd.N_drew));exact HO736.out⟩,⟨bz⟩⟩
            ·rw[if_neg c34] at H
             exact absurd H (by simp)
           ·rw[if_neg c33] at H
            exact absurd H (by simp)
          ·rw[if_neg c32] at H
           exact absurd H (by simp)
       ·rw[if_neg c12] at H
        exact absurd H (by simp)
      ·rw[if_neg c11] at H
       exact absurd H (by simp)
     ·replace c10:=Bool.eq_false_iff.mpr c10
      subst c10
      have H1:(if x5_1.length+x0_1.length<4398046511104 then((some (x5_1++x0_1:List (S61))).bind fun y704=>(if y704.length+x1_1.length<4398046511104 then(some (y704++x1_1)) else(none))) else(none))=some r:=by rw[if_neg (show ¬ (false=true) by decide)] at H;exact H
      clear H
      have H:=H1
      clear H1
      by_cases c44:x5_1.length+x0_1.length<4398046511104
      ·rw[if_pos c44] at H
       have LMc44:=Aside0.mk c44
       clear c44
       obtain⟨y704,hy704⟩:∃ y_:List (S61),y_=(x5_1++x0_1):=⟨_,rfl⟩
       replace H:(if y704.length+x1_1.length<4398046511104 then(some (y704++x1_1)) else(none))=some r:=hz hy704 H
       have Ny704:=Aside0.mk hy704
       clear hy704
       by_cases c45:y704.length+x1_1.length<4398046511104
       ·rw[if_pos c45] at H
        have LMc45:=Aside0.mk c45
        clear c45
        obtain⟨y707,hy707⟩:∃ y_:List (S61),y_=(y704++x1_1):=⟨_,rfl⟩
        replace H:(some y707)=some r:=hz hy707 H
        have Ny707:=Aside0.mk hy707
        clear hy707
        obtain rfl:=Option.some.inj H
        obtain⟨Ao47,co47,eo47⟩:=Kd.V_slice HO_0.out
        subst eo47
        go_wp2_with (first|((with_reducible refine gate_builtin (b:=.append) (xs:=#[.tmp 68,.tmp 69]) rfl ?_);at_builtin;refine Kd.N_append_rows k61 (w0:=w) w.heap.size rfl (.tmp 68) (.tmp 69) 46 61 (.agg #[(.int .i64 0),(.slice none 0 0)]) 32 rfl Try.underlying46 info61 rfl (by decide) (by omega) u5 x5_1 x0_1 _ _ _ (fun k_=>((P0_ k_∨P1_ k_)∨w.heap.size≤k_)) (fun k_=>((fun k_=>((P0_ k_∨P1_ k_)∨w.heap.size≤k_))) k_∧some k_≠(u5:Value).ownBlock) rfl rfl ?aO ?aR (fun _ hk=>hk) ?aF ?aB ?aS ?aL ?_;(case aR=>exact(by skip;exact Kd.V_F (Kd.V_mono (ok':=(fun k_=>((fun k_=>((P0_ k_∨P1_ k_)∨w.heap.size≤k_))) k_∧some k_≠(u5:Value).ownBlock)) (HO_0.out) (fun k_ hk=>⟨hk.1,hk.2⟩))));(case aB=>exact bz);(case aF=>exact(fun k_ hk=>(.inr (Nat.le_trans (below_size bz) hk))));(case aO=>exact(Kd.Nz HO_5.out));(case aS=>exact(below_size bz));(case aL=>have:=LMc44.out;omega);intro v705 w46 ho hb hg hat;rw[← Ny704.out] at ho;replace HO_0:=Aside0.mk (Kd.V_afterv (ok:=(fun k_=>((P0_ k_∨P1_ k_)∨w.heap.size≤k_))) (Kd.Vz HO_0.out) hg hat);replace HO_1:=Aside0.mk (Kd.V_afterv (ok:=(fun k_=>((P0_ k_∨P1_ k_)∨w.heap.size≤k_))) (Kd.Vz HO_1.out) hg hat);replace HB:=Aside0.mk (hb);have HO706:=Aside0.mk (ho);clear HO_5;clear ho hb hg hat;obtain⟨Ao49,co49,eo49⟩:=Kd.V_slice HO_1.out;subst eo49)|((with_reducible refine gate_builtin (b:=.append) (xs:=#[.tmp 70,.tmp 71]) rfl ?_);at_builtin;refine Kd.N_append_rows k61 (w0:=w) w.heap.size rfl (.tmp 70) (.tmp 71) 46 61 (.agg #[(.int .i64 0),(.slice none 0 0)]) 32 rfl Try.underlying46 info61 rfl (by decide) (by omega) v705 y704 x1_1 _ _ _ (fun k_=>((P0_ k_∨P1_ k_)∨w.heap.size≤k_)) (fun k_=>((fun k_=>((P0_ k_∨P1_ k_)∨w.heap.size≤k_))) k_∧some k_≠(v705:Value).ownBlock) rfl rfl ?aO ?aR (fun _ hk=>hk) ?aF ?aB ?aS ?aL ?_;(case aR=>exact(by skip;exact Kd.V_F (Kd.V_mono (ok':=(fun k_=>((fun k_=>((P0_ k_∨P1_ k_)∨w.heap.size≤k_))) k_∧some k_≠(v705:Value).ownBlock)) (HO_1.out) (fun k_ hk=>⟨hk.1,hk.2⟩))));(case aB=>exact bz);(case aF=>exact(fun k_ hk=>(.inr (Nat.le_trans (below_size bz) hk))));(case aO=>exact(Kd.Nz HO706.out));(case aS=>exact(below_size bz));(case aL=>have:=LMc45.out;omega);intro v708 w48 ho hb hg hat;rw[← Ny707.out] at ho;replace HO_0:=Aside0.mk (Kd.V_afterv (ok:=(fun k_=>((P0_ k_∨P1_ k_)∨w.heap.size≤k_))) (Kd.Vz HO_0.out) hg hat);replace HO_1:=Aside0.mk (Kd.V_afterv (ok:=(fun k_=>((P0_ k_∨P1_ k_)∨w.heap.size≤k_))) (Kd.Vz HO_1.out) hg hat);replace HB:=Aside0.mk (hb);have HO709:=Aside0.mk (ho);clear HO706;clear ho hb hg hat))
        go_ret
        exact⟨_,by first|rfl|(simp[errW_none,errW_some]<;>rfl)|(simp[*,errW_none,errW_some]<;>rfl),by(with_reducible repeat (first|apply Kd.N_alloc|apply Kd.N_drewN|apply Kd.N_drew));exact HO709.out,bz⟩
       ·rw[if_neg c45] at H
        exact absurd H (by simp)
      ·rw[if_neg c44] at H
       exact absurd H (by simp)
end Go.Proofs.Ytfblcanijhnhmaa.P