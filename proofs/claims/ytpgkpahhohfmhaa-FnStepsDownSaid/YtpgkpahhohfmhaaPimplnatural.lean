/- One Go function comes to what its Lean function tells. -/
import Derived.Test.YtpgkpahhohfmhaaP0
import Derived.Test.YtpgkpahhohfmhaaPimplcompare
namespace Go.Proofs.Ytpgkpahhohfmhaa.P
open Go.RowKit YtpgkpahhohfmhaaW.PrintWords YtpgkpahhohfmhaaW.PrintLast YtpgkpahhohfmhaaW.PrintMore
set_option linter.unusedVariables false
set_option linter.unusedSimpArgs false
/-! ### impl_natural: function 73 -/
mutual
def impl_natural.l0:Nat→List (S69)→List (S69)→List (S69)→Option ((List (S69)))
 | 0,_,_,_=>none
 | k+1,x0,x1,x5=>if(x0.length:Int)>0 then(impl_natural.j1 k x0 x1 x5 (decide ((x1.length:Int)>0))) else(impl_natural.j1 k x0 x1 x5 false)
def impl_natural.j1:Nat→List (S69)→List (S69)→List (S69)→Bool→Option ((List (S69)))
 | 0,_,_,_,_=>none
 | k+1,x0,x1,x5,x15=>if x15=true then(if 0<(x0.length:Int) then(if 0<(x1.length:Int) then((impl_compare.f k ((rd_T69 x0 0).f1) ((rd_T69 x1 0).f1)).bind fun t1028=>(if t1028>0 then(if x5.length<4398046511104 then(if 1≤(x0.length:Int) then(impl_natural.l0 k (x0.drop 1) x1 (x5++[(⟨(rd_T69 x0 0).f0,(rd_T69 x0 0).f1⟩:S69)])) else(none)) else(none)) else(if t1028<0 then(if x5.length<4398046511104 then(if 1≤(x1.length:Int) then(impl_natural.l0 k x0 (x1.drop 1) (x5++[(⟨(rd_T69 x1 0).f0,(rd_T69 x1 0).f1⟩:S69)])) else(none)) else(none)) else(if x5.length<4398046511104 then(if 1≤(x0.length:Int) then(if 1≤(x1.length:Int) then(impl_natural.l0 k (x0.drop 1) (x1.drop 1) (x5++[(⟨wrap64 (((rd_T69 x0 0).f0)+((rd_T69 x1 0).f0)),(rd_T69 x0 0).f1⟩:S69)])) else(none)) else(none)) else(none))))) else(none)) else(none)) else(if x5.length+x0.length<4398046511104 then((some (x5++x0:List (S69))).bind fun y1020=>(if y1020.length+x1.length<4398046511104 then(some (y1020++x1)) else(none))) else(none))
end
def impl_natural.f (k:Nat)(l0:List (S69))(l1:List (S69)):Option ((List (S69))):=impl_natural.l0 k l0 l1 (([]:List (S69)))
theorem impl_natural.mono_l:∀ k,(∀ y0 y1 y2,LeO (impl_natural.l0 k y0 y1 y2) (impl_natural.l0 (k+1) y0 y1 y2))∧(∀ y0 y1 y2 y3,LeO (impl_natural.j1 k y0 y1 y2 y3) (impl_natural.j1 (k+1) y0 y1 y2 y3))
 | 0=>⟨fun _ _ _ r h=>by simp[impl_natural.l0] at h,fun _ _ _ _ r h=>by simp[impl_natural.j1] at h⟩
 | k+1=>by
  obtain⟨ih0,ih1⟩:=impl_natural.mono_l k
  refine⟨?_,?_⟩
  ·intro y0 y1 y2
   unfold impl_natural.l0
   repeat' first|(with_reducible first|exact ih0 _ _ _|exact ih1 _ _ _ _|exact LeO.refl _|exact LeO.none _|refine LeO.ite ?_ ?_|refine LeO.bind ?_ (fun _=>?_))|exact ih0 _ _ _|exact ih1 _ _ _ _|exact LeO.none _|refine LeO.ite ?_ ?_|refine LeO.bind ?_ (fun _=>?_)
  ·intro y0 y1 y2 y3
   unfold impl_natural.j1
   repeat' first|(with_reducible first|exact ih0 _ _ _|exact ih1 _ _ _ _|exact impl_compare.mono _ _ _|exact LeO.refl _|exact LeO.none _|refine LeO.ite ?_ ?_|refine LeO.bind ?_ (fun _=>?_))|exact ih0 _ _ _|exact ih1 _ _ _ _|exact impl_compare.mono _ _ _|exact LeO.none _|refine LeO.ite ?_ ?_|refine LeO.bind ?_ (fun _=>?_)
theorem impl_natural.mono:∀ a0 a1 k,LeO (impl_natural.f k a0 a1) (impl_natural.f (k+1) a0 a1):=by
 intro a0 a1 k
 obtain⟨ih0,ih1⟩:=impl_natural.mono_l k
 unfold impl_natural.f
 repeat' first|(with_reducible first|exact ih0 _ _ _|exact ih1 _ _ _ _|exact LeO.refl _|exact LeO.none _|refine LeO.ite ?_ ?_|refine LeO.bind ?_ (fun _=>?_))|exact ih0 _ _ _|exact ih1 _ _ _ _|exact LeO.none _|refine LeO.ite ?_ ?_|refine LeO.bind ?_ (fun _=>?_)
def impl_natural.T3:Bool × List (List Nat × List Nat):=(true,[([],[]),([0],[0]),([1],[1]),([2],[2]),([],[]),([4],[4]),([5],[5]),([6],[6]),([3,7],[3,7]),([8,8,0,1,2,3,4,5,6,7,8],[8])])
def impl_natural.B3:List Nat:=[0,1,3,7,0,16,48,112,255,511]
theorem impl_natural.tab3:rtab .any (opsOf Try.f73 3)=impl_natural.T3:=by kernel_rfl
theorem impl_natural.bits3:waitsOk impl_natural.T3.2 impl_natural.B3=true:=by kernel_rfl
def impl_natural.T4:Bool × List (List Nat × List Nat):=(true,[([],[]),([],[]),([1],[1]),([2],[2]),([3],[3]),([],[]),([5],[5]),([6],[6]),([7],[7]),([4,8],[4,8]),([],[]),([10],[10]),([11],[11]),([12],[12]),([9,13],[9,13]),([14],[14]),([0,15],[0,15]),([16,16,0,1,2,3,4,5,6,7,8,9,10,11,12,13,14,15,16],[0,16])])
def impl_natural.B4:List Nat:=[0,0,2,6,14,0,32,96,224,510,0,1024,3072,7168,16382,32766,65535,131071]
theorem impl_natural.tab4:rtab .any (opsOf Try.f73 4)=impl_natural.T4:=by kernel_rfl
theorem impl_natural.bits4:waitsOk impl_natural.T4.2 impl_natural.B4=true:=by kernel_rfl
set_option maxHeartbeats 8000000 in
set_option maxRecDepth 100000 in
theorem impl_natural.calls (k:Nat)(P0_:Nat→Prop)(A0:Option Addr)(c0:Nat)(l0:List (S69))(P1_:Nat→Prop)(A1:Option Addr)(c1:Nat)(l1:List (S69))(r:List (S69))(w:World)(hs0:Kd.V k69 69 w w.heap.size (fun k_=>P0_ k_) (.slice A0 l0.length c0) l0)(hs1:Kd.V k69 69 w w.heap.size (fun k_=>P1_ k_) (.slice A1 l1.length c1) l1)(h:impl_natural.f k l0 l1=some r) :
  Calls Try.prog 73 #[.slice A0 l0.length c0,.slice A1 l1.length c1] w fun e w'=>∃ v0_:Value,e=.returned (v0_)∧Kd.N k69 69 w' w.heap.size (fun k_=>((P0_ k_∨P1_ k_)∨w.heap.size≤k_)) v0_ r∧Below w.heap.size w w':=by
 have hu69:=Try.underlying69
 have HO0:=Aside0.mk (show Kd.V k69 69 w w.heap.size (fun k_=>((P0_ k_∨P1_ k_)∨w.heap.size≤k_)) (.slice A0 l0.length c0) l0 from Kd.V_mono hs0 (fun k_ hk=>.inl (.inl hk)))
 have HO1:=Aside0.mk (show Kd.V k69 69 w w.heap.size (fun k_=>((P0_ k_∨P1_ k_)∨w.heap.size≤k_)) (.slice A1 l1.length c1) l1 from Kd.V_mono hs1 (fun k_ hk=>.inl (.inr hk)))
 have HB:=Aside0.mk (Below.refl w.heap.size w)
 have H:(impl_natural.l0 k l0 l1 (([]:List (S69))))=some r:=h
 clear h
 obtain⟨y1017,hy1017⟩:∃ y_:List (S69),y_=(([]:List (S69))):=⟨_,rfl⟩
 replace H:(impl_natural.l0 k l0 l1 y1017)=some r:=hz hy1017 H
 have Ny1017:=Aside0.mk hy1017
 clear hy1017
 have H':=Aside0.mk H
 clear H
 go_enter Try.func73,Try.ntmps73
 go_wp2_with (first|((with_reducible refine gate_dst (N:=7) rfl ?_);refine Kd.N_lit k69 _ 69 ?hg (N':=7) ?hd (xs:=([]:List (S69))) (inner:=[]) (ok:=(fun k_=>((P0_ k_∨P1_ k_)∨w.heap.size≤k_))) (okp:=(fun k_=>((P0_ k_∨P1_ k_)∨w.heap.size≤k_))) ?hr ?hp (fun _ hk=>hk) ((show ∀ k_,w.heap.size≤k_→(fun k_=>((P0_ k_∨P1_ k_)∨w.heap.size≤k_)) k_ from fun k_ hk=>(.inr (Nat.le_trans (below_size bz) hk))) _ (Nat.le_refl _)) (Below.refl _ _) (Nat.le_refl _) (by simp) ?_;(case hd=>rfl);(case hg=>rfl);(case hr=>first|(go_simp;done)|(go_simp;rfl));(case hp=>exact(Reps.none _ _));intro v1018 w3 ho4 hb hg_ hnew_;clear hg_ hnew_;(first|rw[← Ny1017.out] at ho4|(simp only[Int.reduceToNat] at ho4;rw[← Ny1017.out] at ho4));replace HO0:=Aside0.mk (Kd.V_elder' (Kd.Vz HO0.out) (Kd.N_base ho4) hb);replace HO1:=Aside0.mk (Kd.V_elder' (Kd.Vz HO1.out) (Kd.N_base ho4) hb);have HO1019:=Aside0.mk (Kd.N_lower ho4 (below_size bz));replace HB:=Aside0.mk (below_step bz hb);clear hb ho4))
 go_loopg [0,1,5] k (fun kq v0 v1 v5 w'=>∃ (x0_1:List (S69)) (x1_1:List (S69)) (x5_1:List (S69)),Aside0 (impl_natural.l0 kq x0_1 x1_1 x5_1=some r)∧Aside0 (kq≤k)∧Aside0 (Kd.V k69 69 w' w.heap.size (fun k_=>((P0_ k_∨P1_ k_)∨w.heap.size≤k_)∧some k_≠(v5:Value).ownBlock) v0 x0_1)∧Aside0 (Kd.V k69 69 w' w.heap.size (fun k_=>((P0_ k_∨P1_ k_)∨w.heap.size≤k_)∧some k_≠(v5:Value).ownBlock) v1 x1_1)∧Aside0 (Kd.N k69 69 w' w.heap.size (fun k_=>((P0_ k_∨P1_ k_)∨w.heap.size≤k_)) v5 x5_1)∧Aside0 (Below w.heap.size w w'))
 case atStart=>exact⟨(l0),(l1),(y1017),H',⟨Nat.le_refl _⟩,⟨by(with_reducible repeat (first|apply Kd.V_alloc|apply Kd.V_drewN|apply Kd.V_drew));exact HO0.out⟩,⟨by(with_reducible repeat (first|apply Kd.V_alloc|apply Kd.V_drewN|apply Kd.V_drew));exact HO1.out⟩,⟨by(with_reducible repeat (first|apply Kd.N_alloc|apply Kd.N_drewN|apply Kd.N_drew));exact HO1019.out⟩,⟨bz⟩⟩
 case round =>
  clear H'
  try clear c1
  try clear p2
  obtain⟨x0_1,x1_1,x5_1,HA,HK1,HO_0,HO_1,HO_5,HB⟩:=hrel
  cases gk with
  | zero=>exact absurd HA.out (by simp[impl_natural.l0])
  | succ k1 =>
   have H:=HA.out
   clear HA
   simp only[impl_natural.l0] at H
   have HC5:=Aside0.mk H
   clear H
   go_upto_region 2 with (fail)
   go_cut [15] (fun v15 wc=>∃ (kq:Nat) (x15_4:Bool),v15=.bool x15_4∧Aside0 (impl_natural.j1 kq x0_1 x1_1 x5_1 x15_4=some r)∧Aside0 (kq≤k1)∧Aside0 (Kd.V k69 69 wc w.heap.size (fun k_=>((P0_ k_∨P1_ k_)∨w.heap.size≤k_)∧some k_≠(u5:Value).ownBlock) u0 x0_1)∧Aside0 (Kd.V k69 69 wc w.heap.size (fun k_=>((P0_ k_∨P1_ k_)∨w.heap.size≤k_)∧some k_≠(u5:Value).ownBlock) u1 x1_1)∧Aside0 (Kd.N k69 69 wc w.heap.size (fun k_=>((P0_ k_∨P1_ k_)∨w.heap.size≤k_)) u5 x5_1)∧Aside0 (Below w.heap.size w wc))
   case first =>
    have H:=HC5.out
    clear HC5
    by_cases c6:(x0_1.length:Int)>0
    ·rw[if_pos c6] at H
     have c6b0:decide (0<(x0_1.length:Int))=true:=decide_eq_true c6
     have c6b1:decide (0<x0_1.length)=true:=decide_eq_true (by omega)
     clear c6
     (first|rw[c6b0]|(simp only[i64_w,i32_w];rw[c6b0])|skip)
     have H':=Aside0.mk H
     clear H
     obtain⟨Ao7,co7,eo7⟩:=Kd.V_slice HO_0.out
     subst eo7
     obtain⟨Ao8,co8,eo8⟩:=Kd.V_slice HO_1.out
     subst eo8
     go_wp2
     go_meet
     case rel=>exact⟨_,(decide ((x1_1.length:Int)>0)),(by first|rfl|(simp;done)|(simp[*];done)),H',⟨by have:=HK1.out;first|omega|exact Nat.le_refl _⟩,⟨by(with_reducible repeat (first|apply Kd.V_alloc|apply Kd.V_drewN|apply Kd.V_drew));exact HO_0.out⟩,⟨by(with_reducible repeat (first|apply Kd.V_alloc|apply Kd.V_drewN|apply Kd.V_drew));exact HO_1.out⟩,⟨by(with_reducible repeat (first|apply Kd.N_alloc|apply Kd.N_drewN|apply Kd.N_drew));exact HO_5.out⟩,⟨bz⟩⟩
    ·rw[if_neg c6] at H
     have c6b0:decide (0<(x0_1.length:Int))=false:=decide_eq_false c6
     have c6b1:decide (0<x0_1.length)=false:=decide_eq_false (by omega)
     clear c6
     (first|rw[c6b0]|(simp only[i64_w,i32_w];rw[c6b0])|skip)
     have H':=Aside0.mk H
     clear H
     obtain⟨Ao9,co9,eo9⟩:=Kd.V_slice HO_0.out
     subst eo9
     go_wp2
     go_meet
     case rel=>exact⟨_,(false),(by first|rfl|(simp;done)|(simp[*];done)),H',⟨by have:=HK1.out;first|omega|exact Nat.le_refl _⟩,⟨by(with_reducible repeat (first|apply Kd.V_alloc|apply Kd.V_drewN|apply Kd.V_drew));exact HO_0.out⟩,⟨by(with_reducible repeat (first|apply Kd.V_alloc|apply Kd.V_drewN|apply Kd.V_drew));exact HO_1.out⟩,⟨by(with_reducible repeat (first|apply Kd.N_alloc|apply Kd.N_drewN|apply Kd.N_drew));exact HO_5.out⟩,⟨bz⟩⟩
   case rest =>
    clear HC5
    try clear c1
    try clear p2
    try clear c6
    try clear c6b0
    try clear c6b1
    try clear c7
    try clear p2
    obtain⟨kq,x15_4,rfl,HA,HJ4,HO_0,HO_1,HO_5,HB⟩:=hcut
    cases kq with
    | zero=>exact absurd HA.out (by simp[impl_natural.j1])
    | succ kj4 =>
     have H:=HA.out
     clear HA
     simp only[impl_natural.j1] at H
     by_cases c10:x15_4=true
     ·subst c10
      have H1:(if 0<(x0_1.length:Int) then(if 0<(x1_1.length:Int) then((impl_compare.f kj4 ((rd_T69 x0_1 0).f1) ((rd_T69 x1_1 0).f1)).bind fun t1028=>(if t1028>0 then(if x5_1.length<4398046511104 then(if 1≤(x0_1.length:Int) then(impl_natural.l0 kj4 (x0_1.drop 1) x1_1 (x5_1++[(⟨(rd_T69 x0_1 0).f0,(rd_T69 x0_1 0).f1⟩:S69)])) else(none)) else(none)) else(if t1028<0 then(if x5_1.length<4398046511104 then(if 1≤(x1_1.length:Int) then(impl_natural.l0 kj4 x0_1 (x1_1.drop 1) (x5_1++[(⟨(rd_T69 x1_1 0).f0,(rd_T69 x1_1 0).f1⟩:S69)])) else(none)) else(none)) else(if x5_1.length<4398046511104 then(if 1≤(x0_1.length:Int) then(if 1≤(x1_1.length:Int) then(impl_natural.l0 kj4 (x0_1.drop 1) (x1_1.drop 1) (x5_1++[(⟨wrap64 (((rd_T69 x0_1 0).f0)+((rd_T69 x1_1 0).f0)),(rd_T69 x0_1 0).f1⟩:S69)])) else(none)) else(none)) else(none))))) else(none)) else(none))=some r:=by rw[if_pos rfl] at H;exact H
      clear H
      have H:=H1
      clear H1
      by_cases c11:0<(x0_1.length:Int)
      ·rw[if_pos c11] at H
       have c11b0:decide (0<(x0_1.length:Int))=true:=decide_eq_true c11
       have c11b1:decide (0<x0_1.length)=true:=decide_eq_true (by omega)
       clear c11
       by_cases c12:0<(x1_1.length:Int)
       ·rw[if_pos c12] at H
        have c12b0:decide (0<(x1_1.length:Int))=true:=decide_eq_true c12
        have c12b1:decide (0<x1_1.length)=true:=decide_eq_true (by omega)
        clear c12
        replace H:=Option.bind_eq_some_iff.mp H
        obtain⟨t1028,A130,H⟩:=H
        replace H:(if t1028>0 then(if x5_1.length<4398046511104 then(if 1≤(x0_1.length:Int) then(impl_natural.l0 kj4 (x0_1.drop 1) x1_1 (x5_1++[(⟨(rd_T69 x0_1 0).f0,(rd_T69 x0_1 0).f1⟩:S69)])) else(none)) else(none)) else(if t1028<0 then(if x5_1.length<4398046511104 then(if 1≤(x1_1.length:Int) then(impl_natural.l0 kj4 x0_1 (x1_1.drop 1) (x5_1++[(⟨(rd_T69 x1_1 0).f0,(rd_T69 x1_1 0).f1⟩:S69)])) else(none)) else(none)) else(if x5_1.length<4398046511104 then(if 1≤(x0_1.length:Int) then(if 1≤(x1_1.length:Int) then(impl_natural.l0 kj4 (x0_1.drop 1) (x1_1.drop 1) (x5_1++[(⟨wrap64 (((rd_T69 x0_1 0).f0)+((rd_T69 x1_1 0).f0)),(rd_T69 x0_1 0).f1⟩:S69)])) else(none)) else(none)) else(none))))=some r:=H
        have A13:=Aside0.mk A130
        clear A130
        by_cases c14:t1028>0
        ·rw[if_pos c14] at H
         have c14b0:decide (0<t1028)=true:=decide_eq_true c14
         clear c14
         by_cases c15:x5_1.length<4398046511104
         ·rw[if_pos c15] at H
          have LMc15:=Aside0.mk c15
          clear c15
          obtain⟨y1030,hy1030⟩:∃ y_:List (S69),y_=(x5_1++[(⟨(rd_T69 x0_1 0).f0,(rd_T69 x0_1 0).f1⟩:S69)]):=⟨_,rfl⟩
          replace H:(if 1≤(x0_1.length:Int) then(impl_natural.l0 kj4 (x0_1.drop 1) x1_1 y1030) else(none))=some r:=hz hy1030 H
          have Ny1030:=Aside0.mk hy1030
          clear hy1030
          by_cases c16:1≤(x0_1.length:Int)
          ·rw[if_pos c16] at H
           have c16b0:=eq_true c16
           have c16b1:decide (1≤(x0_1.length:Int))=true:=decide_eq_true c16
           clear c16
           obtain⟨y1033,hy1033⟩:∃ y_:List (S69),y_=(x0_1.drop 1):=⟨_,rfl⟩
           replace H:(impl_natural.l0 kj4 y1033 x1_1 y1030)=some r:=hz hy1033 H
           have Ny1033:=Aside0.mk hy1033
           clear hy1033
           have H':=Aside0.mk H
           clear H
           try go_wp2
           have n0_:=Aside0.mk (Kd.V_drew HO_0.out)
           have n1_:=Aside0.mk (Kd.V_drew HO_1.out)
           have n2_:=Aside0.mk (Kd.N_drew HO_5.out)
           have n3_:=Aside0.mk (below_drew1 HB.out)
           clear HO_0
           clear HO_1
           clear HO_5
           clear HB
           have HO_0:=n0_
           have HO_1:=n1_
           have HO_5:=n2_
           have HB:=n3_
           clear n0_ n1_ n2_ n3_
           obtain⟨Ao18,co18,eo18⟩:=Kd.V_slice HO_0.out
           (first|subst eo18|(injection eo18 with f1_ f2_ f3_;have f4_:=f1_.symm;have f5_:=f3_.symm;clear f1_ f2_ f3_;subst f4_;subst f5_))
           have p1026:0≤(0:Int):=(by omega)
           have q1026:0<(x0_1.length:Int):=dz
           obtain⟨ad1026,A1026_1,c1026_1,e1026,hx1026_0,hx1026_1,hl1026_1,hi1026_1⟩:=at_T69 (Kd.V_reads' HO_0.out).2.2 0 p1026 q1026
           cases e1026
           obtain⟨ce1026,hce1026,hMe1026,hcc1026⟩:=Kd.V_get HO_0.out z69 0 p1026 (by first|exact q1026|exact dz|(have e_:=(Kd.V_reads' HO_0.out).1;omega))
           obtain⟨ua1026_1,uc1026_1,rfl,ul1026_1,ge1026_1⟩:=k69_openF hMe1026
           have hv1026_1:=hcc1026 1 _ rfl
           rw[add_field _ _ 1 (by omega)] at hv1026_1
           replace hv1026_1:=Option.some.inj (hv1026_1.symm.trans hx1026_1)
           injection hv1026_1 with hva_ hvn_ hvc_
           rw[hva_] at ge1026_1
           rw[hvc_] at ul1026_1
           have HL1026_1:=Aside0.mk (show Kd.V k69 69 _ w.heap.size _ _ ((rd_T69 x0_1 0).f1) from Kd.V_mk ul1026_1 ge1026_1)
           clear hva_ hvn_ hvc_ ge1026_1 ul1026_1
           clear hcc1026 hce1026
           have qi1026:(0<x0_1.length)=True:=eq_true (by omega)
           (try rw[show ((0:Int)).toNat=0 from rfl] at hx1026_0)
           (try rw[show 0*2=0 from rfl] at hx1026_0)
           (try rw[Addr.add_zero'] at hx1026_0)
           (try rw[show ((0:Int)).toNat=0 from rfl] at hx1026_1)
           (try rw[show 0*2=0 from rfl] at hx1026_1)
           (try rw[Addr.add_zero'] at hx1026_1)
           have HR1026_1:=Aside0.mk hi1026_1
           have HC1026_1:=Aside0.mk hl1026_1
           clear hi1026_1 hl1026_1
           replace p1026:=eq_true p1026
           replace q1026:=eq_true q1026
           obtain⟨Ao19,co19,eo19⟩:=Kd.V_slice HO_1.out
           (first|subst eo19|(injection eo19 with f1_ f2_ f3_;have f4_:=f1_.symm;have f5_:=f3_.symm;clear f1_ f2_ f3_;subst f4_;subst f5_))
           have p1027:0≤(0:Int):=(by omega)
           have q1027:0<(x1_1.length:Int):=dz
           obtain⟨ad1027,A1027_1,c1027_1,e1027,hx1027_0,hx1027_1,hl1027_1,hi1027_1⟩:=at_T69 (Kd.V_reads' HO_1.out).2.2 0 p1027 q1027
           cases e1027
           obtain⟨ce1027,hce1027,hMe1027,hcc1027⟩:=Kd.V_get HO_1.out z69 0 p1027 (by first|exact q1027|exact dz|(have e_:=(Kd.V_reads' HO_1.out).1;omega))
           obtain⟨ua1027_1,uc1027_1,rfl,ul1027_1,ge1027_1⟩:=k69_openF hMe1027
           have hv1027_1:=hcc1027 1 _ rfl
           rw[add_field _ _ 1 (by omega)] at hv1027_1
           replace hv1027_1:=Option.some.inj (hv1027_1.symm.trans hx1027_1)
           injection hv1027_1 with hva_ hvn_ hvc_
           rw[hva_] at ge1027_1
           rw[hvc_] at ul1027_1
           have HL1027_1:=Aside0.mk (show Kd.V k69 69 _ w.heap.size _ _ ((rd_T69 x1_1 0).f1) from Kd.V_mk ul1027_1 ge1027_1)
           clear hva_ hvn_ hvc_ ge1027_1 ul1027_1
           clear hcc1027 hce1027
           have qi1027:(0<x1_1.length)=True:=eq_true (by omega)
           (try rw[show ((0:Int)).toNat=0 from rfl] at hx1027_0)
           (try rw[show 0*2=0 from rfl] at hx1027_0)
           (try rw[Addr.add_zero'] at hx1027_0)
           (try rw[show ((0:Int)).toNat=0 from rfl] at hx1027_1)
           (try rw[show 0*2=0 from rfl] at hx1027_1)
           (try rw[Addr.add_zero'] at hx1027_1)
           have HR1027_1:=Aside0.mk hi1027_1
           have HC1027_1:=Aside0.mk hl1027_1
           clear hi1027_1 hl1027_1
           replace p1027:=eq_true p1027
           replace q1027:=eq_true q1027
           refine start_ (n:=10) (S:=fun w'=>w'.cell? ad1026=some (.int .i64 ((rd_T69 x0_1 0).f0))∧w'.cell? ⟨ad1026.block,ad1026.off+1,none⟩=some (.slice A1026_1 ((rd_T69 x0_1 0).f1).length c1026_1)∧w'.cell? ad1027=some (.int .i64 ((rd_T69 x1_1 0).f0))∧w'.cell? ⟨ad1027.block,ad1027.off+1,none⟩=some (.slice A1027_1 ((rd_T69 x1_1 0).f1).length c1027_1)) (ds:=[]) #[F,F,F,F,F,F,F,F,F,F] (by kernel_rfl) rfl rfl ⟨hx1026_0,hx1026_1,hx1027_0,hx1027_1⟩ (fun hHeld=>?_);refine with_tabW impl_natural.tab3 impl_natural.bits3 (fun HT_ HW_=>?_)
           generalize wc.drew=w17 at HO_0 HO_1 HO_5 HB HL1026_1 HL1027_1 HR1026_1 HR1027_1 hx1026_0 hx1026_1 hx1027_0 hx1027_1 hHeld ⊢
           refine pq 0 (some 16) ?_ HT_.out rfl rfl (Or.inl ⟨by rfl,?_⟩) ?_ ?_ ?_
           rotate_left;(· intro w';go_simp;with_reducible rfl);rotate_left;(· simp only[Act.put,s1,s2,s3,i64_w,i32_w];rfl)
           refine pq 1 (some 17) ?_ HT_.out rfl rfl (Or.inl ⟨by rfl,?_⟩) ?_ ?_ ?_
           rotate_left;(· intro w';go_simp;with_reducible rfl);rotate_left;(· simp only[Act.put,s1,s2,s3,i64_w,i32_w];rfl)
           refine pq 2 (some 18) ?_ HT_.out rfl rfl (Or.inl ⟨by rfl,?_⟩) ?_ ?_ ?_
           rotate_left;(· intro w';go_simp;with_reducible rfl);rotate_left;(· simp only[Act.put,s1,s2,s3,i64_w,i32_w];rfl)
           refine pq 4 (some 20) ?_ HT_.out rfl rfl (Or.inl ⟨by rfl,?_⟩) ?_ ?_ ?_
           rotate_left;(· intro w';go_simp;with_reducible rfl);rotate_left;(· simp only[Act.put,s1,s2,s3,i64_w,i32_w];rfl)
           refine pq 5 (some 21) ?_ HT_.out rfl rfl (Or.inl ⟨by rfl,?_⟩) ?_ ?_ ?_
           rotate_left;(· intro w';go_simp;with_reducible rfl);rotate_left;(· simp only[Act.put,s1,s2,s3,i64_w,i32_w];rfl)
           refine pq 6 (some 22) ?_ HT_.out rfl rfl (Or.inl ⟨by rfl,?_⟩) ?_ ?_ ?_
           rotate_left;(· intro w';go_simp;with_reducible rfl);rotate_left;(· simp only[Act.put,s1,s2,s3,i64_w,i32_w];rfl)
           refine take_ (i:=3) (N:=some 19) (v:=?_) (a':=?_) #[T,T,T,T,T,T,T,F,F,F] rfl rfl (take_ofW HT_.out HW_.out (by kernel_rfl)) (fun _ _ _ h=>h) (Or.inl ⟨by rfl,?_⟩) hHeld ?_ ?_
           rotate_left;(· rintro w' ⟨s0,s1,s2,s3⟩;go_simp;with_reducible rfl);rotate_left;(· simp only[Act.put,s1,s2,s3,i64_w,i32_w];rfl)
           refine take_ (i:=7) (N:=some 23) (v:=?_) (a':=?_) #[T,T,T,T,T,T,T,T,F,F] rfl rfl (take_ofW HT_.out HW_.out (by kernel_rfl)) (fun _ _ _ h=>h) (Or.inl ⟨by rfl,?_⟩) hHeld ?_ ?_
           rotate_left;(· rintro w' ⟨s0,s1,s2,s3⟩;go_simp;with_reducible rfl);rotate_left;(· simp only[Act.put,s1,s2,s3,i64_w,i32_w];rfl)
           refine one_ (i:=8) (N:=some 24) #[T,T,T,T,T,T,T,T,T,F] rfl rfl (one_of HT_.out (by kernel_rfl)) (by decide) (fun K hK=>?_)
           refine goes_ Try.func57 (by kernel_rfl) rfl #[.slice A1026_1 ((rd_T69 x0_1 0).f1).length c1026_1,.slice A1027_1 ((rd_T69 x1_1 0).f1).length c1027_1] (by rfl) rfl rfl az ?_
           with_reducible refine(impl_compare.calls kj4 _ _ ((rd_T69 x0_1 0).f1) _ _ ((rd_T69 x1_1 0).f1) t1028 _ ?side1 ?side2 ?side3 ?side4 A13.out).mono ?_
           (case side1=>repeat (first|exact(by repeat (first|(with_reducible exact HR1026_1.out)|(with_reducible refine Kd.C_alloc ?_ _)|(with_reducible refine Kd.C_drewN ?_ _)|(with_reducible refine Kd.C_drew ?_)|exact HR1026_1.out))|(with_reducible refine Kd.C_alloc ?_ _)|(with_reducible refine Kd.C_drewN ?_ _)|(with_reducible refine Kd.C_drew ?_)))
           (case side2=>exact HC1026_1.out)
           (case side3=>repeat (first|exact(by repeat (first|(with_reducible exact HR1027_1.out)|(with_reducible refine Kd.C_alloc ?_ _)|(with_reducible refine Kd.C_drewN ?_ _)|(with_reducible refine Kd.C_drew ?_)|exact HR1027_1.out))|(with_reducible refine Kd.C_alloc ?_ _)|(with_reducible refine Kd.C_drewN ?_ _)|(with_reducible refine Kd.C_drew ?_)))
           (case side4=>exact HC1027_1.out)
           rintro e w20 ⟨rfl,hb⟩
           have HS0_:=(hb.cell (World.block_lt_of_cell? _ _ (hHeld.1))).trans (hHeld.1)
           have HS1_:=(hb.cell (World.block_lt_of_cell? _ _ (hHeld.2.1))).trans (hHeld.2.1)
           have HS2_:=(hb.cell (World.block_lt_of_cell? _ _ (hHeld.2.2.1))).trans (hHeld.2.2.1)
           have HS3_:=(hb.cell (World.block_lt_of_cell? _ _ (hHeld.2.2.2))).trans (hHeld.2.2.2)
           refine⟨_,rfl,?_⟩
           have n0_:=Aside0.mk (Kd.V_below (Kd.Vz HO_0.out) hb)
           have n1_:=Aside0.mk (Kd.V_below (Kd.Vz HO_1.out) hb)
           have n2_:=Aside0.mk (Kd.N_below (Kd.Nz HO_5.out) hb)
           have n3_:=Aside0.mk (Kd.V_below (Kd.Vz HL1026_1.out) hb)
           have n4_:=Aside0.mk (Kd.V_below (Kd.Vz HL1027_1.out) hb)
           have n5_:=Aside0.mk (Kd.C_below (by repeat (first|(with_reducible exact HR1026_1.out)|(with_reducible refine Kd.C_alloc ?_ _)|(with_reducible refine Kd.C_drewN ?_ _)|(with_reducible refine Kd.C_drew ?_)|exact HR1026_1.out)) hb)
           have n6_:=Aside0.mk (Kd.C_below (by repeat (first|(with_reducible exact HR1027_1.out)|(with_reducible refine Kd.C_alloc ?_ _)|(with_reducible refine Kd.C_drewN ?_ _)|(with_reducible refine Kd.C_drew ?_)|exact HR1027_1.out)) hb)
           have n7_:=Aside0.mk (below_step bz hb)
           clear HO_0
           clear HO_1
           clear HO_5
           clear HL1026_1
           clear HL1027_1
           clear HR1026_1
           clear HR1027_1
           clear HB
           have HO_0:=n0_
           have HO_1:=n1_
           have HO_5:=n2_
           have HL1026_1:=n3_
           have HL1027_1:=n4_
           have HR1026_1:=n5_
           have HR1027_1:=n6_
           have HB:=n7_
           clear n0_ n1_ n2_ n3_ n4_ n5_ n6_ n7_
           (try clear hb)
           (try clear hb2)
           (try clear hk)
           (try clear hi)
           refine hK.out _ _ ⟨HS0_,HS1_,HS2_,HS3_⟩ (fun hHeld=>?_)
           clear hK K
           refine norm_ (a':=?_) ?_ ?_
           rotate_left
           ·show Act.put _ (some 24) _=_
            simp only[Act.put,s1,s2,s3,i64_w,i32_w]
            rfl
           refine pq 9 (some 6) ?_ HT_.out rfl rfl (Or.inl ⟨by rfl,?_⟩) ?_ ?_ ?_
           rotate_left;(· intro w';go_simp;with_reducible rfl);rotate_left;(· simp only[Act.put,s1,s2,s3,i64_w,i32_w];rfl)
           refine done_ (done_of HT_.out (by kernel_rfl)) ?_
           have p1029:0≤(0:Int):=(by omega)
           have q1029:0<(x0_1.length:Int):=dz
           obtain⟨ad1029,A1029_1,c1029_1,e1029,hx1029_0,hx1029_1,hl1029_1,hi1029_1⟩:=at_T69 (Kd.V_reads' HO_0.out).2.2 0 p1029 q1029
           obtain rfl:ad1026=ad1029:=(by injection e1029)
           obtain⟨ce1029,hce1029,hMe1029,hcc1029⟩:=Kd.V_get HO_0.out z69 0 p1029 (by first|exact q1029|exact dz|(have e_:=(Kd.V_reads' HO_0.out).1;omega))
           obtain⟨ua1029_1,uc1029_1,rfl,ul1029_1,ge1029_1⟩:=k69_openF hMe1029
           have hv1029_1:=hcc1029 1 _ rfl
           rw[add_field _ _ 1 (by omega)] at hv1029_1
           replace hv1029_1:=Option.some.inj (hv1029_1.symm.trans hx1029_1)
           injection hv1029_1 with hva_ hvn_ hvc_
           rw[hva_] at ge1029_1
           rw[hvc_] at ul1029_1
           have HL1029_1:=Aside0.mk (show Kd.V k69 69 _ w.heap.size _ _ ((rd_T69 x0_1 0).f1) from Kd.V_mk ul1029_1 ge1029_1)
           clear hva_ hvn_ hvc_ ge1029_1 ul1029_1
           clear hcc1029 hce1029
           have qi1029:(0<x0_1.length)=True:=eq_true (by omega)
           (try rw[show ((0:Int)).toNat=0 from rfl] at hx1029_0)
           (try rw[show 0*2=0 from rfl] at hx1029_0)
           (try rw[Addr.add_zero'] at hx1029_0)
           (try rw[show ((0:Int)).toNat=0 from rfl] at hx1029_1)
           (try rw[show 0*2=0 from rfl] at hx1029_1)
           (try rw[Addr.add_zero'] at hx1029_1)
           (try (have he_:=Option.some.inj (hx1029_1.symm.trans (show _=some (Value.slice A1026_1 _ c1026_1) from by assumption));injection he_ with ha_ hn_ hc_;clear hn_;subst ha_;subst hc_))
           have HR1029_1:=Aside0.mk hi1029_1
           have HC1029_1:=Aside0.mk hl1029_1
           clear hi1029_1 hl1029_1
           replace p1029:=eq_true p1029
           replace q1029:=eq_true q1029
           try go_wp2_with (first|((with_reducible refine gate_builtin (b:=.append) (xs:=#[.tmp 49,.tmp 53]) rfl ?_);at_builtin;refine Kd.N_append k69 (w0:=w) w.heap.size rfl (.tmp 49) (.tmp 53) 58 69 (.agg #[(.int .i64 0),(.slice none 0 0)]) 32 rfl Try.underlying58 info69 rfl (by decide) (by omega) u5 x5_1 (⟨(rd_T69 x0_1 0).f0,(rd_T69 x0_1 0).f1⟩:S69) [.int .i64 ((rd_T69 x0_1 0).f0),.slice A1029_1 ((rd_T69 x0_1 0).f1).length c1029_1] (fun k_=>((P0_ k_∨P1_ k_)∨w.heap.size≤k_)) (fun k_=>((fun k_=>((P0_ k_∨P1_ k_)∨w.heap.size≤k_))) k_∧some k_≠(u5:Value).ownBlock) rfl rfl ?aP (fun _ hk=>hk) ?aF ?aO ?aB ?aS ?aL ?_;(case aP=>exact(k69_mkF _ _ (⟨(rd_T69 x0_1 0).f0,(rd_T69 x0_1 0).f1⟩:S69) (Kd.V_reads' (Kd.V_mono (ok':=(fun k_=>((fun k_=>((P0_ k_∨P1_ k_)∨w.heap.size≤k_))) k_∧some k_≠(u5:Value).ownBlock)) (HL1029_1.out) (fun k_ hk=>⟨hk.1,hk.2⟩))).2.1 (Kd.V_F (Kd.V_mono (ok':=(fun k_=>((fun k_=>((P0_ k_∨P1_ k_)∨w.heap.size≤k_))) k_∧some k_≠(u5:Value).ownBlock)) (HL1029_1.out) (fun k_ hk=>⟨hk.1,hk.2⟩)))));(case aB=>exact bz);(case aF=>exact(fun k_ hk=>(.inr (Nat.le_trans (below_size bz) hk))));(case aO=>exact(Kd.Nz HO_5.out));(case aS=>exact(below_size bz));(case aL=>have:=LMc15.out;omega);intro v1031 w21 ho hb hg hat;rw[← Ny1030.out] at ho;replace HO_0:=Aside0.mk (Kd.V_afterv (ok:=(fun k_=>((P0_ k_∨P1_ k_)∨w.heap.size≤k_))) (Kd.Vz HO_0.out) hg hat);replace HO_1:=Aside0.mk (Kd.V_afterv (ok:=(fun k_=>((P0_ k_∨P1_ k_)∨w.heap.size≤k_))) (Kd.Vz HO_1.out) hg hat);replace HL1026_1:=Aside0.mk (Kd.V_afterv (ok:=(fun k_=>((P0_ k_∨P1_ k_)∨w.heap.size≤k_))) (Kd.Vz HL1026_1.out) hg hat);replace HL1027_1:=Aside0.mk (Kd.V_afterv (ok:=(fun k_=>((P0_ k_∨P1_ k_)∨w.heap.size≤k_))) (Kd.Vz HL1027_1.out) hg hat);replace HL1029_1:=Aside0.mk (Kd.V_afterv (ok:=(fun k_=>((P0_ k_∨P1_ k_)∨w.heap.size≤k_))) (Kd.Vz HL1029_1.out) hg hat);replace HB:=Aside0.mk (hb);have HO1032:=Aside0.mk (ho);clear HO_5;clear ho hb hg hat;have q22:(1:Int)≤((x0_1.length:Int):Int):=dz;obtain⟨i022,hi022,_,hsz22,_⟩:=info_parts info69;have hroom22:x0_1.length≤co18:=(Kd.V_reads' HO_0.out).2.1;have hC22:Kd.F k69 _ _ (some ad1026) x0_1.length x0_1:=(Kd.V_at (base:=w.heap.size) HO_0.out).2.2;have hcut22:=cut_from (P:=Try.prog) 58 69 .i64 Try.underlying58 hi022 2 hsz22 (some ad1026) x0_1.length co18 1 (by omega) q22;have hr22:=Kd.F_cut (m:=(1:Int).toNat) (c:=co18) hC22 (by omega) hroom22;obtain⟨A22,hA22⟩:∃ Aq_,Aq_=(if co18=(1:Int).toNat then(some ad1026) else((some ad1026):Option Addr).map (·.add ((1:Int).toNat*2))):=⟨_,rfl⟩;obtain⟨c22,hc22⟩:∃ cq_,cq_=co18-(1:Int).toNat:=⟨_,rfl⟩;have hy22:y1033.length=x0_1.length-(1:Int).toNat:=(by rw[Ny1033.out,List.length_drop]<;>omega);rw[show (x0_1).drop (1:Int).toNat=y1033 from Ny1033.out.symm] at hr22;replace hr22:Kd.F k69 _ _ A22 y1033.length y1033:=(by rw[hA22];exact hr22);rw[← hy22,← hA22,← hc22] at hcut22;have HO1037:=Aside0.mk (show Kd.V k69 69 _ w.heap.size _ (.slice A22 y1033.length c22) y1033 from Kd.V_mk (by rw[hy22,hc22];exact Nat.sub_le_sub_right hroom22 _) hr22);have HC1037:=Aside0.mk (show y1033.length≤c22 from by rw[hy22,hc22];exact Nat.sub_le_sub_right hroom22 _);clear hr22 hC22 hroom22 hi022 hsz22 hc22;have KY22:=Aside0.mk hy22;have KA22:=Aside0.mk hA22;clear hy22 hA22;replace q22:=eq_true q22))
           go_roundg kj4
           case measure=>have:=HK1.out;have:=HJ4.out;omega
           case rel=>exact⟨(y1033),(x1_1),(y1030),H',⟨by have:=HK1.out;have:=HJ4.out;omega⟩,⟨by(with_reducible repeat (first|apply Kd.V_alloc|apply Kd.V_drewN|apply Kd.V_drew));exact HO1037.out⟩,⟨by(with_reducible repeat (first|apply Kd.V_alloc|apply Kd.V_drewN|apply Kd.V_drew));exact HO_1.out⟩,⟨by(with_reducible repeat (first|apply Kd.N_alloc|apply Kd.N_drewN|apply Kd.N_drew));exact HO1032.out⟩,⟨bz⟩⟩
          ·rw[if_neg c16] at H
           exact absurd H (by simp)
         ·rw[if_neg c15] at H
          exact absurd H (by simp)
        ·rw[if_neg c14] at H
         have c14b0:decide (0<t1028)=false:=decide_eq_false c14
         clear c14
         by_cases c23:t1028<0
         ·rw[if_pos c23] at H
          have c23b0:decide (t1028<0)=true:=decide_eq_true c23
          clear c23
          by_cases c24:x5_1.length<4398046511104
          ·rw[if_pos c24] at H
           have LMc24:=Aside0.mk c24
           clear c24
           obtain⟨y1039,hy1039⟩:∃ y_:List (S69),y_=(x5_1++[(⟨(rd_T69 x1_1 0).f0,(rd_T69 x1_1 0).f1⟩:S69)]):=⟨_,rfl⟩
           replace H:(if 1≤(x1_1.length:Int) then(impl_natural.l0 kj4 x0_1 (x1_1.drop 1) y1039) else(none))=some r:=hz hy1039 H
           have Ny1039:=Aside0.mk hy1039
           clear hy1039
           by_cases c25:1≤(x1_1.length:Int)
           ·rw[if_pos c25] at H
            have c25b0:=eq_true c25
            have c25b1:decide (1≤(x1_1.length:Int))=true:=decide_eq_true c25
            clear c25
            obtain⟨y1042,hy1042⟩:∃ y_:List (S69),y_=(x1_1.drop 1):=⟨_,rfl⟩
            replace H:(impl_natural.l0 kj4 x0_1 y1042 y1039)=some r:=hz hy1042 H
            have Ny1042:=Aside0.mk hy1042
            clear hy1042
            have H':=Aside0.mk H
            clear H
            try go_wp2
            have n0_:=Aside0.mk (Kd.V_drew HO_0.out)
            have n1_:=Aside0.mk (Kd.V_drew HO_1.out)
            have n2_:=Aside0.mk (Kd.N_drew HO_5.out)
            have n3_:=Aside0.mk (below_drew1 HB.out)
            clear HO_0
            clear HO_1
            clear HO_5
            clear HB
            have HO_0:=n0_
            have HO_1:=n1_
            have HO_5:=n2_
            have HB:=n3_
            clear n0_ n1_ n2_ n3_
            obtain⟨Ao27,co27,eo27⟩:=Kd.V_slice HO_0.out
            (first|subst eo27|(injection eo27 with f1_ f2_ f3_;have f4_:=f1_.symm;have f5_:=f3_.symm;clear f1_ f2_ f3_;subst f4_;subst f5_))
            have p1026:0≤(0:Int):=(by omega)
            have q1026:0<(x0_1.length:Int):=dz
            obtain⟨ad1026,A1026_1,c1026_1,e1026,hx1026_0,hx1026_1,hl1026_1,hi1026_1⟩:=at_T69 (Kd.V_reads' HO_0.out).2.2 0 p1026 q1026
            cases e1026
            obtain⟨ce1026,hce1026,hMe1026,hcc1026⟩:=Kd.V_get HO_0.out z69 0 p1026 (by first|exact q1026|exact dz|(have e_:=(Kd.V_reads' HO_0.out).1;omega))
            obtain⟨ua1026_1,uc1026_1,rfl,ul1026_1,ge1026_1⟩:=k69_openF hMe1026
            have hv1026_1:=hcc1026 1 _ rfl
            rw[add_field _ _ 1 (by omega)] at hv1026_1
            replace hv1026_1:=Option.some.inj (hv1026_1.symm.trans hx1026_1)
            injection hv1026_1 with hva_ hvn_ hvc_
            rw[hva_] at ge1026_1
            rw[hvc_] at ul1026_1
            have HL1026_1:=Aside0.mk (show Kd.V k69 69 _ w.heap.size _ _ ((rd_T69 x0_1 0).f1) from Kd.V_mk ul1026_1 ge1026_1)
            clear hva_ hvn_ hvc_ ge1026_1 ul1026_1
            clear hcc1026 hce1026
            have qi1026:(0<x0_1.length)=True:=eq_true (by omega)
            (try rw[show ((0:Int)).toNat=0 from rfl] at hx1026_0)
            (try rw[show 0*2=0 from rfl] at hx1026_0)
            (try rw[Addr.add_zero'] at hx1026_0)
            (try rw[show ((0:Int)).toNat=0 from rfl] at hx1026_1)
            (try rw[show 0*2=0 from rfl] at hx1026_1)
            (try rw[Addr.add_zero'] at hx1026_1)
            have HR1026_1:=Aside0.mk hi1026_1
            have HC1026_1:=Aside0.mk hl1026_1
            clear hi1026_1 hl1026_1
            replace p1026:=eq_true p1026
            replace q1026:=eq_true q1026
            obtain⟨Ao28,co28,eo28⟩:=Kd.V_slice HO_1.out
            (first|subst eo28|(injection eo28 with f1_ f2_ f3_;have f4_:=f1_.symm;have f5_:=f3_.symm;clear f1_ f2_ f3_;subst f4_;subst f5_))
            have p1027:0≤(0:Int):=(by omega)
            have q1027:0<(x1_1.length:Int):=dz
            obtain⟨ad1027,A1027_1,c1027_1,e1027,hx1027_0,hx1027_1,hl1027_1,hi1027_1⟩:=at_T69 (Kd.V_reads' HO_1.out).2.2 0 p1027 q1027
            cases e1027
            obtain⟨ce1027,hce1027,hMe1027,hcc1027⟩:=Kd.V_get HO_1.out z69 0 p1027 (by first|exact q1027|exact dz|(have e_:=(Kd.V_reads' HO_1.out).1;omega))
            obtain⟨ua1027_1,uc1027_1,rfl,ul1027_1,ge1027_1⟩:=k69_openF hMe1027
            have hv1027_1:=hcc1027 1 _ rfl
            rw[add_field _ _ 1 (by omega)] at hv1027_1
            replace hv1027_1:=Option.some.inj (hv1027_1.symm.trans hx1027_1)
            injection hv1027_1 with hva_ hvn_ hvc_
            rw[hva_] at ge1027_1
            rw[hvc_] at ul1027_1
            have HL1027_1:=Aside0.mk (show Kd.V k69 69 _ w.heap.size _ _ ((rd_T69 x1_1 0).f1) from Kd.V_mk ul1027_1 ge1027_1)
            clear hva_ hvn_ hvc_ ge1027_1 ul1027_1
            clear hcc1027 hce1027
            have qi1027:(0<x1_1.length)=True:=eq_true (by omega)
            (try rw[show ((0:Int)).toNat=0 from rfl] at hx1027_0)
            (try rw[show 0*2=0 from rfl] at hx1027_0)
            (try rw[Addr.add_zero'] at hx1027_0)
            (try rw[show ((0:Int)).toNat=0 from rfl] at hx1027_1)
            (try rw[show 0*2=0 from rfl] at hx1027_1)
            (try rw[Addr.add_zero'] at hx1027_1)
            have HR1027_1:=Aside0.mk hi1027_1
            have HC1027_1:=Aside0.mk hl1027_1
            clear hi1027_1 hl1027_1
            replace p1027:=eq_true p1027
            replace q1027:=eq_true q1027
            refine start_ (n:=10) (S:=fun w'=>w'.cell? ad1026=some (.int .i64 ((rd_T69 x0_1 0).f0))∧w'.cell? ⟨ad1026.block,ad1026.off+1,none⟩=some (.slice A1026_1 ((rd_T69 x0_1 0).f1).length c1026_1)∧w'.cell? ad1027=some (.int .i64 ((rd_T69 x1_1 0).f0))∧w'.cell? ⟨ad1027.block,ad1027.off+1,none⟩=some (.slice A1027_1 ((rd_T69 x1_1 0).f1).length c1027_1)) (ds:=[]) #[F,F,F,F,F,F,F,F,F,F] (by kernel_rfl) rfl rfl ⟨hx1026_0,hx1026_1,hx1027_0,hx1027_1⟩ (fun hHeld=>?_);refine with_tabW impl_natural.tab3 impl_natural.bits3 (fun HT_ HW_=>?_)
            generalize wc.drew=w26 at HO_0 HO_1 HO_5 HB HL1026_1 HL1027_1 HR1026_1 HR1027_1 hx1026_0 hx1026_1 hx1027_0 hx1027_1 hHeld ⊢
            refine pq 0 (some 16) ?_ HT_.out rfl rfl (Or.inl ⟨by rfl,?_⟩) ?_ ?_ ?_
            rotate_left;(· intro w';go_simp;with_reducible rfl);rotate_left;(· simp only[Act.put,s1,s2,s3,i64_w,i32_w];rfl)
            refine pq 1 (some 17) ?_ HT_.out rfl rfl (Or.inl ⟨by rfl,?_⟩) ?_ ?_ ?_
            rotate_left;(· intro w';go_simp;with_reducible rfl);rotate_left;(· simp only[Act.put,s1,s2,s3,i64_w,i32_w];rfl)
            refine pq 2 (some 18) ?_ HT_.out rfl rfl (Or.inl ⟨by rfl,?_⟩) ?_ ?_ ?_
            rotate_left;(· intro w';go_simp;with_reducible rfl);rotate_left;(· simp only[Act.put,s1,s2,s3,i64_w,i32_w];rfl)
            refine pq 4 (some 20) ?_ HT_.out rfl rfl (Or.inl ⟨by rfl,?_⟩) ?_ ?_ ?_
            rotate_left;(· intro w';go_simp;with_reducible rfl);rotate_left;(· simp only[Act.put,s1,s2,s3,i64_w,i32_w];rfl)
            refine pq 5 (some 21) ?_ HT_.out rfl rfl (Or.inl ⟨by rfl,?_⟩) ?_ ?_ ?_
            rotate_left;(· intro w';go_simp;with_reducible rfl);rotate_left;(· simp only[Act.put,s1,s2,s3,i64_w,i32_w];rfl)
            refine pq 6 (some 22) ?_ HT_.out rfl rfl (Or.inl ⟨by rfl,?_⟩) ?_ ?_ ?_
            rotate_left;(· intro w';go_simp;with_reducible rfl);rotate_left;(· simp only[Act.put,s1,s2,s3,i64_w,i32_w];rfl)
            refine take_ (i:=3) (N:=some 19) (v:=?_) (a':=?_) #[T,T,T,T,T,T,T,F,F,F] rfl rfl (take_ofW HT_.out HW_.out (by kernel_rfl)) (fun _ _ _ h=>h) (Or.inl ⟨by rfl,?_⟩) hHeld ?_ ?_
            rotate_left;(· rintro w' ⟨s0,s1,s2,s3⟩;go_simp;with_reducible rfl);rotate_left;(· simp only[Act.put,s1,s2,s3,i64_w,i32_w];rfl)
            refine take_ (i:=7) (N:=some 23) (v:=?_) (a':=?_) #[T,T,T,T,T,T,T,T,F,F] rfl rfl (take_ofW HT_.out HW_.out (by kernel_rfl)) (fun _ _ _ h=>h) (Or.inl ⟨by rfl,?_⟩) hHeld ?_ ?_
            rotate_left;(· rintro w' ⟨s0,s1,s2,s3⟩;go_simp;with_reducible rfl);rotate_left;(· simp only[Act.put,s1,s2,s3,i64_w,i32_w];rfl)
            refine one_ (i:=8) (N:=some 24) #[T,T,T,T,T,T,T,T,T,F] rfl rfl (one_of HT_.out (by kernel_rfl)) (by decide) (fun K hK=>?_)
            refine goes_ Try.func57 (by kernel_rfl) rfl #[.slice A1026_1 ((rd_T69 x0_1 0).f1).length c1026_1,.slice A1027_1 ((rd_T69 x1_1 0).f1).length c1027_1] (by rfl) rfl rfl az ?_
            with_reducible refine(impl_compare.calls kj4 _ _ ((rd_T69 x0_1 0).f1) _ _ ((rd_T69 x1_1 0).f1) t1028 _ ?side1 ?side2 ?side3 ?side4 A13.out).mono ?_
            (case side1=>repeat (first|exact(by repeat (first|(with_reducible exact HR1026_1.out)|(with_reducible refine Kd.C_alloc ?_ _)|(with_reducible refine Kd.C_drewN ?_ _)|(with_reducible refine Kd.C_drew ?_)|exact HR1026_1.out))|(with_reducible refine Kd.C_alloc ?_ _)|(with_reducible refine Kd.C_drewN ?_ _)|(with_reducible refine Kd.C_drew ?_)))
            (case side2=>exact HC1026_1.out)
            (case side3=>repeat (first|exact(by repeat (first|(with_reducible exact HR1027_1.out)|(with_reducible refine Kd.C_alloc ?_ _)|(with_reducible refine Kd.C_drewN ?_ _)|(with_reducible refine Kd.C_drew ?_)|exact HR1027_1.out))|(with_reducible refine Kd.C_alloc ?_ _)|(with_reducible refine Kd.C_drewN ?_ _)|(with_reducible refine Kd.C_drew ?_)))
            (case side4=>exact HC1027_1.out)
            rintro e w29 ⟨rfl,hb⟩
            have HS0_:=(hb.cell (World.block_lt_of_cell? _ _ (hHeld.1))).trans (hHeld.1)
            have HS1_:=(hb.cell (World.block_lt_of_cell? _ _ (hHeld.2.1))).trans (hHeld.2.1)
            have HS2_:=(hb.cell (World.block_lt_of_cell? _ _ (hHeld.2.2.1))).trans (hHeld.2.2.1)
            have HS3_:=(hb.cell (World.block_lt_of_cell? _ _ (hHeld.2.2.2))).trans (hHeld.2.2.2)
            refine⟨_,rfl,?_⟩
            have n0_:=Aside0.mk (Kd.V_below (Kd.Vz HO_0.out) hb)
            have n1_:=Aside0.mk (Kd.V_below (Kd.Vz HO_1.out) hb)
            have n2_:=Aside0.mk (Kd.N_below (Kd.Nz HO_5.out) hb)
            have n3_:=Aside0.mk (Kd.V_below (Kd.Vz HL1026_1.out) hb)
            have n4_:=Aside0.mk (Kd.V_below (Kd.Vz HL1027_1.out) hb)
            have n5_:=Aside0.mk (Kd.C_below (by repeat (first|(with_reducible exact HR1026_1.out)|(with_reducible refine Kd.C_alloc ?_ _)|(with_reducible refine Kd.C_drewN ?_ _)|(with_reducible refine Kd.C_drew ?_)|exact HR1026_1.out)) hb)
            have n6_:=Aside0.mk (Kd.C_below (by repeat (first|(with_reducible exact HR1027_1.out)|(with_reducible refine Kd.C_alloc ?_ _)|(with_reducible refine Kd.C_drewN ?_ _)|(with_reducible refine Kd.C_drew ?_)|exact HR1027_1.out)) hb)
            have n7_:=Aside0.mk (below_step bz hb)
            clear HO_0
            clear HO_1
            clear HO_5
            clear HL1026_1
            clear HL1027_1
            clear HR1026_1
            clear HR1027_1
            clear HB
            have HO_0:=n0_
            have HO_1:=n1_
            have HO_5:=n2_
            have HL1026_1:=n3_
            have HL1027_1:=n4_
            have HR1026_1:=n5_
            have HR1027_1:=n6_
            have HB:=n7_
            clear n0_ n1_ n2_ n3_ n4_ n5_ n6_ n7_
            (try clear hb)
            (try clear hb2)
            (try clear hk)
            (try clear hi)
            refine hK.out _ _ ⟨HS0_,HS1_,HS2_,HS3_⟩ (fun hHeld=>?_)
            clear hK K
            refine norm_ (a':=?_) ?_ ?_
            rotate_left
            ·show Act.put _ (some 24) _=_
             simp only[Act.put,s1,s2,s3,i64_w,i32_w]
             rfl
            refine pq 9 (some 6) ?_ HT_.out rfl rfl (Or.inl ⟨by rfl,?_⟩) ?_ ?_ ?_
            rotate_left;(· intro w';go_simp;with_reducible rfl);rotate_left;(· simp only[Act.put,s1,s2,s3,i64_w,i32_w];rfl)
            refine done_ (done_of HT_.out (by kernel_rfl)) ?_
            have p1038:0≤(0:Int):=(by omega)
            have q1038:0<(x1_1.length:Int):=dz
            obtain⟨ad1038,A1038_1,c1038_1,e1038,hx1038_0,hx1038_1,hl1038_1,hi1038_1⟩:=at_T69 (Kd.V_reads' HO_1.out).2.2 0 p1038 q1038
            obtain rfl:ad1027=ad1038:=(by injection e1038)
            obtain⟨ce1038,hce1038,hMe1038,hcc1038⟩:=Kd.V_get HO_1.out z69 0 p1038 (by first|exact q1038|exact dz|(have e_:=(Kd.V_reads' HO_1.out).1;omega))
            obtain⟨ua1038_1,uc1038_1,rfl,ul1038_1,ge1038_1⟩:=k69_openF hMe1038
            have hv1038_1:=hcc1038 1 _ rfl
            rw[add_field _ _ 1 (by omega)] at hv1038_1
            replace hv1038_1:=Option.some.inj (hv1038_1.symm.trans hx1038_1)
            injection hv1038_1 with hva_ hvn_ hvc_
            rw[hva_] at ge1038_1
            rw[hvc_] at ul1038_1
            have HL1038_1:=Aside0.mk (show Kd.V k69 69 _ w.heap.size _ _ ((rd_T69 x1_1 0).f1) from Kd.V_mk ul1038_1 ge1038_1)
            clear hva_ hvn_ hvc_ ge1038_1 ul1038_1
            clear hcc1038 hce1038
            have qi1038:(0<x1_1.length)=True:=eq_true (by omega)
            (try rw[show ((0:Int)).toNat=0 from rfl] at hx1038_0)
            (try rw[show 0*2=0 from rfl] at hx1038_0)
            (try rw[Addr.add_zero'] at hx1038_0)
            (try rw[show ((0:Int)).toNat=0 from rfl] at hx1038_1)
            (try rw[show 0*2=0 from rfl] at hx1038_1)
            (try rw[Addr.add_zero'] at hx1038_1)
            (try (have he_:=Option.some.inj (hx1038_1.symm.trans (show _=some (Value.slice A1027_1 _ c1027_1) from by assumption));injection he_ with ha_ hn_ hc_;clear hn_;subst ha_;subst hc_))
            have HR1038_1:=Aside0.mk hi1038_1
            have HC1038_1:=Aside0.mk hl1038_1
            clear hi1038_1 hl1038_1
            replace p1038:=eq_true p1038
            replace q1038:=eq_true q1038
            try go_wp2_with (first|((with_reducible refine gate_builtin (b:=.append) (xs:=#[.tmp 60,.tmp 64]) rfl ?_);at_builtin;refine Kd.N_append k69 (w0:=w) w.heap.size rfl (.tmp 60) (.tmp 64) 58 69 (.agg #[(.int .i64 0),(.slice none 0 0)]) 32 rfl Try.underlying58 info69 rfl (by decide) (by omega) u5 x5_1 (⟨(rd_T69 x1_1 0).f0,(rd_T69 x1_1 0).f1⟩:S69) [.int .i64 ((rd_T69 x1_1 0).f0),.slice A1038_1 ((rd_T69 x1_1 0).f1).length c1038_1] (fun k_=>((P0_ k_∨P1_ k_)∨w.heap.size≤k_)) (fun k_=>((fun k_=>((P0_ k_∨P1_ k_)∨w.heap.size≤k_))) k_∧some k_≠(u5:Value).ownBlock) rfl rfl ?aP (fun _ hk=>hk) ?aF ?aO ?aB ?aS ?aL ?_;(case aP=>exact(k69_mkF _ _ (⟨(rd_T69 x1_1 0).f0,(rd_T69 x1_1 0).f1⟩:S69) (Kd.V_reads' (Kd.V_mono (ok':=(fun k_=>((fun k_=>((P0_ k_∨P1_ k_)∨w.heap.size≤k_))) k_∧some k_≠(u5:Value).ownBlock)) (HL1038_1.out) (fun k_ hk=>⟨hk.1,hk.2⟩))).2.1 (Kd.V_F (Kd.V_mono (ok':=(fun k_=>((fun k_=>((P0_ k_∨P1_ k_)∨w.heap.size≤k_))) k_∧some k_≠(u5:Value).ownBlock)) (HL1038_1.out) (fun k_ hk=>⟨hk.1,hk.2⟩)))));(case aB=>exact bz);(case aF=>exact(fun k_ hk=>(.inr (Nat.le_trans (below_size bz) hk))));(case aO=>exact(Kd.Nz HO_5.out));(case aS=>exact(below_size bz));(case aL=>have:=LMc24.out;omega);intro v1040 w30 ho hb hg hat;rw[← Ny1039.out] at ho;replace HO_0:=Aside0.mk (Kd.V_afterv (ok:=(fun k_=>((P0_ k_∨P1_ k_)∨w.heap.size≤k_))) (Kd.Vz HO_0.out) hg hat);replace HO_1:=Aside0.mk (Kd.V_afterv (ok:=(fun k_=>((P0_ k_∨P1_ k_)∨w.heap.size≤k_))) (Kd.Vz HO_1.out) hg hat);replace HL1026_1:=Aside0.mk (Kd.V_afterv (ok:=(fun k_=>((P0_ k_∨P1_ k_)∨w.heap.size≤k_))) (Kd.Vz HL1026_1.out) hg hat);replace HL1027_1:=Aside0.mk (Kd.V_afterv (ok:=(fun k_=>((P0_ k_∨P1_ k_)∨w.heap.size≤k_))) (Kd.Vz HL1027_1.out) hg hat);replace HL1038_1:=Aside0.mk (Kd.V_afterv (ok:=(fun k_=>((P0_ k_∨P1_ k_)∨w.heap.size≤k_))) (Kd.Vz HL1038_1.out) hg hat);replace HB:=Aside0.mk (hb);have HO1041:=Aside0.mk (ho);clear HO_5;clear ho hb hg hat;have q31:(1:Int)≤((x1_1.length:Int):Int):=dz;obtain⟨i031,hi031,_,hsz31,_⟩:=info_parts info69;have hroom31:x1_1.length≤co28:=(Kd.V_reads' HO_1.out).2.1;have hC31:Kd.F k69 _ _ (some ad1027) x1_1.length x1_1:=(Kd.V_at (base:=w.heap.size) HO_1.out).2.2;have hcut31:=cut_from (P:=Try.prog) 58 69 .i64 Try.underlying58 hi031 2 hsz31 (some ad1027) x1_1.length co28 1 (by omega) q31;have hr31:=Kd.F_cut (m:=(1:Int).toNat) (c:=co28) hC31 (by omega) hroom31;obtain⟨A31,hA31⟩:∃ Aq_,Aq_=(if co28=(1:Int).toNat then(some ad1027) else((some ad1027):Option Addr).map (·.add ((1:Int).toNat*2))):=⟨_,rfl⟩;obtain⟨c31,hc31⟩:∃ cq_,cq_=co28-(1:Int).toNat:=⟨_,rfl⟩;have hy31:y1042.length=x1_1.length-(1:Int).toNat:=(by rw[Ny1042.out,List.length_drop]<;>omega);rw[show (x1_1).drop (1:Int).toNat=y1042 from Ny1042.out.symm] at hr31;replace hr31:Kd.F k69 _ _ A31 y1042.length y1042:=(by rw[hA31];exact hr31);rw[← hy31,← hA31,← hc31] at hcut31;have HO1046:=Aside0.mk (show Kd.V k69 69 _ w.heap.size _ (.slice A31 y1042.length c31) y1042 from Kd.V_mk (by rw[hy31,hc31];exact Nat.sub_le_sub_right hroom31 _) hr31);have HC1046:=Aside0.mk (show y1042.length≤c31 from by rw[hy31,hc31];exact Nat.sub_le_sub_right hroom31 _);clear hr31 hC31 hroom31 hi031 hsz31 hc31;have KY31:=Aside0.mk hy31;have KA31:=Aside0.mk hA31;clear hy31 hA31;replace q31:=eq_true q31))
            go_roundg kj4
            case measure=>have:=HK1.out;have:=HJ4.out;omega
            case rel=>exact⟨(x0_1),(y1042),(y1039),H',⟨by have:=HK1.out;have:=HJ4.out;omega⟩,⟨by(with_reducible repeat (first|apply Kd.V_alloc|apply Kd.V_drewN|apply Kd.V_drew));exact HO_0.out⟩,⟨by(with_reducible repeat (first|apply Kd.V_alloc|apply Kd.V_drewN|apply Kd.V_drew));exact HO1046.out⟩,⟨by(with_reducible repeat (first|apply Kd.N_alloc|apply Kd.N_drewN|apply Kd.N_drew));exact HO1041.out⟩,⟨bz⟩⟩
           ·rw[if_neg c25] at H
            exact absurd H (by simp)
          ·rw[if_neg c24] at H
           exact absurd H (by simp)
         ·rw[if_neg c23] at H
          have c23b0:decide (t1028<0)=false:=decide_eq_false c23
          clear c23
          by_cases c32:x5_1.length<4398046511104
          ·rw[if_pos c32] at H
           have LMc32:=Aside0.mk c32
           clear c32
           obtain⟨y1050,hy1050⟩:∃ y_:List (S69),y_=(x5_1++[(⟨wrap64 (((rd_T69 x0_1 0).f0)+((rd_T69 x1_1 0).f0)),(rd_T69 x0_1 0).f1⟩:S69)]):=⟨_,rfl⟩
           replace H:(if 1≤(x0_1.length:Int) then(if 1≤(x1_1.length:Int) then(impl_natural.l0 kj4 (x0_1.drop 1) (x1_1.drop 1) y1050) else(none)) else(none))=some r:=hz hy1050 H
           have Ny1050:=Aside0.mk hy1050
           clear hy1050
           by_cases c33:1≤(x0_1.length:Int)
           ·rw[if_pos c33] at H
            have c33b0:=eq_true c33
            have c33b1:decide (1≤(x0_1.length:Int))=true:=decide_eq_true c33
            clear c33
            obtain⟨y1053,hy1053⟩:∃ y_:List (S69),y_=(x0_1.drop 1):=⟨_,rfl⟩
            replace H:(if 1≤(x1_1.length:Int) then(impl_natural.l0 kj4 y1053 (x1_1.drop 1) y1050) else(none))=some r:=hz hy1053 H
            have Ny1053:=Aside0.mk hy1053
            clear hy1053
            by_cases c34:1≤(x1_1.length:Int)
            ·rw[if_pos c34] at H
             have c34b0:=eq_true c34
             have c34b1:decide (1≤(x1_1.length:Int))=true:=decide_eq_true c34
             clear c34
             obtain⟨y1058,hy1058⟩:∃ y_:List (S69),y_=(x1_1.drop 1):=⟨_,rfl⟩
             replace H:(impl_natural.l0 kj4 y1053 y1058 y1050)=some r:=hz hy1058 H
             have Ny1058:=Aside0.mk hy1058
             clear hy1058
             have H':=Aside0.mk H
             clear H
             try go_wp2
             have n0_:=Aside0.mk (Kd.V_drew HO_0.out)
             have n1_:=Aside0.mk (Kd.V_drew HO_1.out)
             have n2_:=Aside0.mk (Kd.N_drew HO_5.out)
             have n3_:=Aside0.mk (below_drew1 HB.out)
             clear HO_0
             clear HO_1
             clear HO_5
             clear HB
             have HO_0:=n0_
             have HO_1:=n1_
             have HO_5:=n2_
             have HB:=n3_
             clear n0_ n1_ n2_ n3_
             obtain⟨Ao36,co36,eo36⟩:=Kd.V_slice HO_0.out
             (first|subst eo36|(injection eo36 with f1_ f2_ f3_;have f4_:=f1_.symm;have f5_:=f3_.symm;clear f1_ f2_ f3_;subst f4_;subst f5_))
             have p1026:0≤(0:Int):=(by omega)
             have q1026:0<(x0_1.length:Int):=dz
             obtain⟨ad1026,A1026_1,c1026_1,e1026,hx1026_0,hx1026_1,hl1026_1,hi1026_1⟩:=at_T69 (Kd.V_reads' HO_0.out).2.2 0 p1026 q1026
             cases e1026
             obtain⟨ce1026,hce1026,hMe1026,hcc1026⟩:=Kd.V_get HO_0.out z69 0 p1026 (by first|exact q1026|exact dz|(have e_:=(Kd.V_reads' HO_0.out).1;omega))
             obtain⟨ua1026_1,uc1026_1,rfl,ul1026_1,ge1026_1⟩:=k69_openF hMe1026
             have hv1026_1:=hcc1026 1 _ rfl
             rw[add_field _ _ 1 (by omega)] at hv1026_1
             replace hv1026_1:=Option.some.inj (hv1026_1.symm.trans hx1026_1)
             injection hv1026_1 with hva_ hvn_ hvc_
             rw[hva_] at ge1026_1
             rw[hvc_] at ul1026_1
             have HL1026_1:=Aside0.mk (show Kd.V k69 69 _ w.heap.size _ _ ((rd_T69 x0_1 0).f1) from Kd.V_mk ul1026_1 ge1026_1)
             clear hva_ hvn_ hvc_ ge1026_1 ul1026_1
             clear hcc1026 hce1026
             have qi1026:(0<x0_1.length)=True:=eq_true (by omega)
             (try rw[show ((0:Int)).toNat=0 from rfl] at hx1026_0)
             (try rw[show 0*2=0 from rfl] at hx1026_0)
             (try rw[Addr.add_zero'] at hx1026_0)
             (try rw[show ((0:Int)).toNat=0 from rfl] at hx1026_1)
             (try rw[show 0*2=0 from rfl] at hx1026_1)
             (try rw[Addr.add_zero'] at hx1026_1)
             have HR1026_1:=Aside0.mk hi1026_1
             have HC1026_1:=Aside0.mk hl1026_1
             clear hi1026_1 hl1026_1
             replace p1026:=eq_true p1026
             replace q1026:=eq_true q1026
             obtain⟨Ao37,co37,eo37⟩:=Kd.V_slice HO_1.out
             (first|subst eo37|(injection eo37 with f1_ f2_ f3_;have f4_:=f1_.symm;have f5_:=f3_.symm;clear f1_ f2_ f3_;subst f4_;subst f5_))
             have p1027:0≤(0:Int):=(by omega)
             have q1027:0<(x1_1.length:Int):=dz
             obtain⟨ad1027,A1027_1,c1027_1,e1027,hx1027_0,hx1027_1,hl1027_1,hi1027_1⟩:=at_T69 (Kd.V_reads' HO_1.out).2.2 0 p1027 q1027
             cases e1027
             obtain⟨ce1027,hce1027,hMe1027,hcc1027⟩:=Kd.V_get HO_1.out z69 0 p1027 (by first|exact q1027|exact dz|(have e_:=(Kd.V_reads' HO_1.out).1;omega))
             obtain⟨ua1027_1,uc1027_1,rfl,ul1027_1,ge1027_1⟩:=k69_openF hMe1027
             have hv1027_1:=hcc1027 1 _ rfl
             rw[add_field _ _ 1 (by omega)] at hv1027_1
             replace hv1027_1:=Option.some.inj (hv1027_1.symm.trans hx1027_1)
             injection hv1027_1 with hva_ hvn_ hvc_
             rw[hva_] at ge1027_1
             rw[hvc_] at ul1027_1
             have HL1027_1:=Aside0.mk (show Kd.V k69 69 _ w.heap.size _ _ ((rd_T69 x1_1 0).f1) from Kd.V_mk ul1027_1 ge1027_1)
             clear hva_ hvn_ hvc_ ge1027_1 ul1027_1
             clear hcc1027 hce1027
             have qi1027:(0<x1_1.length)=True:=eq_true (by omega)
             (try rw[show ((0:Int)).toNat=0 from rfl] at hx1027_0)
             (try rw[show 0*2=0 from rfl] at hx1027_0)
             (try rw[Addr.add_zero'] at hx1027_0)
             (try rw[show ((0:Int)).toNat=0 from rfl] at hx1027_1)
             (try rw[show 0*2=0 from rfl] at hx1027_1)
             (try rw[Addr.add_zero'] at hx1027_1)
             have HR1027_1:=Aside0.mk hi1027_1
             have HC1027_1:=Aside0.mk hl1027_1
             clear hi1027_1 hl1027_1
             replace p1027:=eq_true p1027
             replace q1027:=eq_true q1027
             refine start_ (n:=10) (S:=fun w'=>w'.cell? ad1026=some (.int .i64 ((rd_T69 x0_1 0).f0))∧w'.cell? ⟨ad1026.block,ad1026.off+1,none⟩=some (.slice A1026_1 ((rd_T69 x0_1 0).f1).length c1026_1)∧w'.cell? ad1027=some (.int .i64 ((rd_T69 x1_1 0).f0))∧w'.cell? ⟨ad1027.block,ad1027.off+1,none⟩=some (.slice A1027_1 ((rd_T69 x1_1 0).f1).length c1027_1)) (ds:=[]) #[F,F,F,F,F,F,F,F,F,F] (by kernel_rfl) rfl rfl ⟨hx1026_0,hx1026_1,hx1027_0,hx1027_1⟩ (fun hHeld=>?_);refine with_tabW impl_natural.tab3 impl_natural.bits3 (fun HT_ HW_=>?_)
             generalize wc.drew=w35 at HO_0 HO_1 HO_5 HB HL1026_1 HL1027_1 HR1026_1 HR1027_1 hx1026_0 hx1026_1 hx1027_0 hx1027_1 hHeld ⊢
             refine pq 0 (some 16) ?_ HT_.out rfl rfl (Or.inl ⟨by rfl,?_⟩) ?_ ?_ ?_
             rotate_left;(· intro w';go_simp;with_reducible rfl);rotate_left;(· simp only[Act.put,s1,s2,s3,i64_w,i32_w];rfl)
             refine pq 1 (some 17) ?_ HT_.out rfl rfl (Or.inl ⟨by rfl,?_⟩) ?_ ?_ ?_
             rotate_left;(· intro w';go_simp;with_reducible rfl);rotate_left;(· simp only[Act.put,s1,s2,s3,i64_w,i32_w];rfl)
             refine pq 2 (some 18) ?_ HT_.out rfl rfl (Or.inl ⟨by rfl,?_⟩) ?_ ?_ ?_
             rotate_left;(· intro w';go_simp;with_reducible rfl);rotate_left;(· simp only[Act.put,s1,s2,s3,i64_w,i32_w];rfl)
             refine pq 4 (some 20) ?_ HT_.out rfl rfl (Or.inl ⟨by rfl,?_⟩) ?_ ?_ ?_
             rotate_left;(· intro w';go_simp;with_reducible rfl);rotate_left;(· simp only[Act.put,s1,s2,s3,i64_w,i32_w];rfl)
             refine pq 5 (some 21) ?_ HT_.out rfl rfl (Or.inl ⟨by rfl,?_⟩) ?_ ?_ ?_
             rotate_left;(· intro w';go_simp;with_reducible rfl);rotate_left;(· simp only[Act.put,s1,s2,s3,i64_w,i32_w];rfl)
             refine pq 6 (some 22) ?_ HT_.out rfl rfl (Or.inl ⟨by rfl,?_⟩) ?_ ?_ ?_
             rotate_left;(· intro w';go_simp;with_reducible rfl);rotate_left;(· simp only[Act.put,s1,s2,s3,i64_w,i32_w];rfl)
             refine take_ (i:=3) (N:=some 19) (v:=?_) (a':=?_) #[T,T,T,T,T,T,T,F,F,F] rfl rfl (take_ofW HT_.out HW_.out (by kernel_rfl)) (fun _ _ _ h=>h) (Or.inl ⟨by rfl,?_⟩) hHeld ?_ ?_
             rotate_left;(· rintro w' ⟨s0,s1,s2,s3⟩;go_simp;with_reducible rfl);rotate_left;(· simp only[Act.put,s1,s2,s3,i64_w,i32_w];rfl)
             refine take_ (i:=7) (N:=some 23) (v:=?_) (a':=?_) #[T,T,T,T,T,T,T,T,F,F] rfl rfl (take_ofW HT_.out HW_.out (by kernel_rfl)) (fun _ _ _ h=>h) (Or.inl ⟨by rfl,?_⟩) hHeld ?_ ?_
             rotate_left;(· rintro w' ⟨s0,s1,s2,s3⟩;go_simp;with_reducible rfl);rotate_left;(· simp only[Act.put,s1,s2,s3,i64_w,i32_w];rfl)
             refine one_ (i:=8) (N:=some 24) #[T,T,T,T,T,T,T,T,T,F] rfl rfl (one_of HT_.out (by kernel_rfl)) (by decide) (fun K hK=>?_)
             refine goes_ Try.func57 (by kernel_rfl) rfl #[.slice A1026_1 ((rd_T69 x0_1 0).f1).length c1026_1,.slice A1027_1 ((rd_T69 x1_1 0).f1).length c1027_1] (by rfl) rfl rfl az ?_
             with_reducible refine(impl_compare.calls kj4 _ _ ((rd_T69 x0_1 0).f1) _ _ ((rd_T69 x1_1 0).f1) t1028 _ ?side1 ?side2 ?side3 ?side4 A13.out).mono ?_
             (case side1=>repeat (first|exact(by repeat (first|(with_reducible exact HR1026_1.out)|(with_reducible refine Kd.C_alloc ?_ _)|(with_reducible refine Kd.C_drewN ?_ _)|(with_reducible refine Kd.C_drew ?_)|exact HR1026_1.out))|(with_reducible refine Kd.C_alloc ?_ _)|(with_reducible refine Kd.C_drewN ?_ _)|(with_reducible refine Kd.C_drew ?_)))
             (case side2=>exact HC1026_1.out)
             (case side3=>repeat (first|exact(by repeat (first|(with_reducible exact HR1027_1.out)|(with_reducible refine Kd.C_alloc ?_ _)|(with_reducible refine Kd.C_drewN ?_ _)|(with_reducible refine Kd.C_drew ?_)|exact HR1027_1.out))|(with_reducible refine Kd.C_alloc ?_ _)|(with_reducible refine Kd.C_drewN ?_ _)|(with_reducible refine Kd.C_drew ?_)))
             (case side4=>exact HC1027_1.out)
             rintro e w38 ⟨rfl,hb⟩
             have HS0_:=(hb.cell (World.block_lt_of_cell? _ _ (hHeld.1))).trans (hHeld.1)
             have HS1_:=(hb.cell (World.block_lt_of_cell? _ _ (hHeld.2.1))).trans (hHeld.2.1)
             have HS2_:=(hb.cell (World.block_lt_of_cell? _ _ (hHeld.2.2.1))).trans (hHeld.2.2.1)
             have HS3_:=(hb.cell (World.block_lt_of_cell? _ _ (hHeld.2.2.2))).trans (hHeld.2.2.2)
             refine⟨_,rfl,?_⟩
             have n0_:=Aside0.mk (Kd.V_below (Kd.Vz HO_0.out) hb)
             have n1_:=Aside0.mk (Kd.V_below (Kd.Vz HO_1.out) hb)
             have n2_:=Aside0.mk (Kd.N_below (Kd.Nz HO_5.out) hb)
             have n3_:=Aside0.mk (Kd.V_below (Kd.Vz HL1026_1.out) hb)
             have n4_:=Aside0.mk (Kd.V_below (Kd.Vz HL1027_1.out) hb)
             have n5_:=Aside0.mk (Kd.C_below (by repeat (first|(with_reducible exact HR1026_1.out)|(with_reducible refine Kd.C_alloc ?_ _)|(with_reducible refine Kd.C_drewN ?_ _)|(with_reducible refine Kd.C_drew ?_)|exact HR1026_1.out)) hb)
             have n6_:=Aside0.mk (Kd.C_below (by repeat (first|(with_reducible exact HR1027_1.out)|(with_reducible refine Kd.C_alloc ?_ _)|(with_reducible refine Kd.C_drewN ?_ _)|(with_reducible refine Kd.C_drew ?_)|exact HR1027_1.out)) hb)
             have n7_:=Aside0.mk (below_step bz hb)
             clear HO_0
             clear HO_1
             clear HO_5
             clear HL1026_1
             clear HL1027_1
             clear HR1026_1
             clear HR1027_1
             clear HB
             have HO_0:=n0_
             have HO_1:=n1_
             have HO_5:=n2_
             have HL1026_1:=n3_
             have HL1027_1:=n4_
             have HR1026_1:=n5_
             have HR1027_1:=n6_
             have HB:=n7_
             clear n0_ n1_ n2_ n3_ n4_ n5_ n6_ n7_
             (try clear hb)
             (try clear hb2)
             (try clear hk)
             (try clear hi)
             refine hK.out _ _ ⟨HS0_,HS1_,HS2_,HS3_⟩ (fun hHeld=>?_)
             clear hK K
             refine norm_ (a':=?_) ?_ ?_
             rotate_left
             ·show Act.put _ (some 24) _=_
              simp only[Act.put,s1,s2,s3,i64_w,i32_w]
              rfl
             refine pq 9 (some 6) ?_ HT_.out rfl rfl (Or.inl ⟨by rfl,?_⟩) ?_ ?_ ?_
             rotate_left;(· intro w';go_simp;with_reducible rfl);rotate_left;(· simp only[Act.put,s1,s2,s3,i64_w,i32_w];rfl)
             refine done_ (done_of HT_.out (by kernel_rfl)) ?_
             try go_wp2
             have n0_:=Aside0.mk (Kd.V_drew HO_0.out)
             have n1_:=Aside0.mk (Kd.V_drew HO_1.out)
             have n2_:=Aside0.mk (Kd.N_drew HO_5.out)
             have n3_:=Aside0.mk (Kd.V_drew HL1026_1.out)
             have n4_:=Aside0.mk (Kd.V_drew HL1027_1.out)
             have n5_:=Aside0.mk (Kd.C_drew HR1026_1.out)
             have n6_:=Aside0.mk (Kd.C_drew HR1027_1.out)
             have n7_:=Aside0.mk (below_drew1 HB.out)
             clear HO_0
             clear HO_1
             clear HO_5
             clear HL1026_1
             clear HL1027_1
             clear HR1026_1
             clear HR1027_1
             clear HB
             have HO_0:=n0_
             have HO_1:=n1_
             have HO_5:=n2_
             have HL1026_1:=n3_
             have HL1027_1:=n4_
             have HR1026_1:=n5_
             have HR1027_1:=n6_
             have HB:=n7_
             clear n0_ n1_ n2_ n3_ n4_ n5_ n6_ n7_
             have p1047:0≤(0:Int):=(by omega)
             have q1047:0<(x0_1.length:Int):=dz
             obtain⟨ad1047,A1047_1,c1047_1,e1047,hx1047_0,hx1047_1,hl1047_1,hi1047_1⟩:=at_T69 (Kd.V_reads' HO_0.out).2.2 0 p1047 q1047
             obtain rfl:ad1026=ad1047:=(by injection e1047)
             obtain⟨ce1047,hce1047,hMe1047,hcc1047⟩:=Kd.V_get HO_0.out z69 0 p1047 (by first|exact q1047|exact dz|(have e_:=(Kd.V_reads' HO_0.out).1;omega))
             obtain⟨ua1047_1,uc1047_1,rfl,ul1047_1,ge1047_1⟩:=k69_openF hMe1047
             have hv1047_1:=hcc1047 1 _ rfl
             rw[add_field _ _ 1 (by omega)] at hv1047_1
             replace hv1047_1:=Option.some.inj (hv1047_1.symm.trans hx1047_1)
             injection hv1047_1 with hva_ hvn_ hvc_
             rw[hva_] at ge1047_1
             rw[hvc_] at ul1047_1
             have HL1047_1:=Aside0.mk (show Kd.V k69 69 _ w.heap.size _ _ ((rd_T69 x0_1 0).f1) from Kd.V_mk ul1047_1 ge1047_1)
             clear hva_ hvn_ hvc_ ge1047_1 ul1047_1
             clear hcc1047 hce1047
             have qi1047:(0<x0_1.length)=True:=eq_true (by omega)
             (try rw[show ((0:Int)).toNat=0 from rfl] at hx1047_0)
             (try rw[show 0*2=0 from rfl] at hx1047_0)
             (try rw[Addr.add_zero'] at hx1047_0)
             (try rw[show ((0:Int)).toNat=0 from rfl] at hx1047_1)
             (try rw[show 0*2=0 from rfl] at hx1047_1)
             (try rw[Addr.add_zero'] at hx1047_1)
             (try (have he_:=Option.some.inj (hx1047_1.symm.trans (show _=some (Value.slice A1026_1 _ c1026_1) from by assumption));injection he_ with ha_ hn_ hc_;clear hn_;subst ha_;subst hc_))
             have HR1047_1:=Aside0.mk hi1047_1
             have HC1047_1:=Aside0.mk hl1047_1
             clear hi1047_1 hl1047_1
             replace p1047:=eq_true p1047
             replace q1047:=eq_true q1047
             have p1048:0≤(0:Int):=(by omega)
             have q1048:0<(x1_1.length:Int):=dz
             obtain⟨ad1048,A1048_1,c1048_1,e1048,hx1048_0,hx1048_1,hl1048_1,hi1048_1⟩:=at_T69 (Kd.V_reads' HO_1.out).2.2 0 p1048 q1048
             obtain rfl:ad1027=ad1048:=(by injection e1048)
             obtain⟨ce1048,hce1048,hMe1048,hcc1048⟩:=Kd.V_get HO_1.out z69 0 p1048 (by first|exact q1048|exact dz|(have e_:=(Kd.V_reads' HO_1.out).1;omega))
             obtain⟨ua1048_1,uc1048_1,rfl,ul1048_1,ge1048_1⟩:=k69_openF hMe1048
             have hv1048_1:=hcc1048 1 _ rfl
             rw[add_field _ _ 1 (by omega)] at hv1048_1
             replace hv1048_1:=Option.some.inj (hv1048_1.symm.trans hx1048_1)
             injection hv1048_1 with hva_ hvn_ hvc_
             rw[hva_] at ge1048_1
             rw[hvc_] at ul1048_1
             have HL1048_1:=Aside0.mk (show Kd.V k69 69 _ w.heap.size _ _ ((rd_T69 x1_1 0).f1) from Kd.V_mk ul1048_1 ge1048_1)
             clear hva_ hvn_ hvc_ ge1048_1 ul1048_1
             clear hcc1048 hce1048
             have qi1048:(0<x1_1.length)=True:=eq_true (by omega)
             (try rw[show ((0:Int)).toNat=0 from rfl] at hx1048_0)
             (try rw[show 0*2=0 from rfl] at hx1048_0)
             (try rw[Addr.add_zero'] at hx1048_0)
             (try rw[show ((0:Int)).toNat=0 from rfl] at hx1048_1)
             (try rw[show 0*2=0 from rfl] at hx1048_1)
             (try rw[Addr.add_zero'] at hx1048_1)
             (try (have he_:=Option.some.inj (hx1048_1.symm.trans (show _=some (Value.slice A1027_1 _ c1027_1) from by assumption));injection he_ with ha_ hn_ hc_;clear hn_;subst ha_;subst hc_))
             have HR1048_1:=Aside0.mk hi1048_1
             have HC1048_1:=Aside0.mk hl1048_1
             clear hi1048_1 hl1048_1
             replace p1048:=eq_true p1048
             replace q1048:=eq_true q1048
             have p1049:0≤(0:Int):=(by omega)
             have q1049:0<(x0_1.length:Int):=dz
             obtain⟨ad1049,A1049_1,c1049_1,e1049,hx1049_0,hx1049_1,hl1049_1,hi1049_1⟩:=at_T69 (Kd.V_reads' HO_0.out).2.2 0 p1049 q1049
             obtain rfl:ad1026=ad1049:=(by injection e1049)
             obtain⟨ce1049,hce1049,hMe1049,hcc1049⟩:=Kd.V_get HO_0.out z69 0 p1049 (by first|exact q1049|exact dz|(have e_:=(Kd.V_reads' HO_0.out).1;omega))
             obtain⟨ua1049_1,uc1049_1,rfl,ul1049_1,ge1049_1⟩:=k69_openF hMe1049
             have hv1049_1:=hcc1049 1 _ rfl
             rw[add_field _ _ 1 (by omega)] at hv1049_1
             replace hv1049_1:=Option.some.inj (hv1049_1.symm.trans hx1049_1)
             injection hv1049_1 with hva_ hvn_ hvc_
             rw[hva_] at ge1049_1
             rw[hvc_] at ul1049_1
             have HL1049_1:=Aside0.mk (show Kd.V k69 69 _ w.heap.size _ _ ((rd_T69 x0_1 0).f1) from Kd.V_mk ul1049_1 ge1049_1)
             clear hva_ hvn_ hvc_ ge1049_1 ul1049_1
             clear hcc1049 hce1049
             have qi1049:(0<x0_1.length)=True:=eq_true (by omega)
             (try rw[show ((0:Int)).toNat=0 from rfl] at hx1049_0)
             (try rw[show 0*2=0 from rfl] at hx1049_0)
             (try rw[Addr.add_zero'] at hx1049_0)
             (try rw[show ((0:Int)).toNat=0 from rfl] at hx1049_1)
             (try rw[show 0*2=0 from rfl] at hx1049_1)
             (try rw[Addr.add_zero'] at hx1049_1)
             have HR1049_1:=Aside0.mk hi1049_1
             have HC1049_1:=Aside0.mk hl1049_1
             clear hi1049_1 hl1049_1
             replace p1049:=eq_true p1049
             replace q1049:=eq_true q1049
             have ea_:=Option.some.inj (hx1047_1.symm.trans hx1049_1)
             injection ea_ with ea_ en_ ec_
             subst ea_
             subst ec_
             clear en_
             refine start_ (n:=18) (S:=fun w'=>w'.cell? ad1026=some (.int .i64 ((rd_T69 x0_1 0).f0))∧w'.cell? ⟨ad1026.block,ad1026.off+1,none⟩=some (.slice A1047_1 ((rd_T69 x0_1 0).f1).length c1047_1)∧w'.cell? ad1027=some (.int .i64 ((rd_T69 x1_1 0).f0))∧w'.cell? ⟨ad1027.block,ad1027.off+1,none⟩=some (.slice A1048_1 ((rd_T69 x1_1 0).f1).length c1048_1)∧w'.cell? ad1026=some (.int .i64 ((rd_T69 x0_1 0).f0))∧w'.cell? ⟨ad1026.block,ad1026.off+1,none⟩=some (.slice A1047_1 ((rd_T69 x0_1 0).f1).length c1047_1)) (ds:=[15,16]) #[F,F,F,F,F,F,F,F,F,F,F,F,F,F,F,F,F,F] (by kernel_rfl) rfl rfl ⟨hx1047_0,hx1047_1,hx1048_0,hx1048_1,hx1049_0,hx1049_1⟩ (fun hHeld=>?_);refine with_tabW impl_natural.tab4 impl_natural.bits4 (fun HT_ HW_=>?_)
             generalize w38.drew=w39 at HO_0 HO_1 HO_5 HL1026_1 HL1027_1 HR1026_1 HR1027_1 HB HL1047_1 HL1048_1 HL1049_1 HR1047_1 HR1048_1 HR1049_1 hx1047_0 hx1047_1 hx1048_0 hx1048_1 hx1049_0 hx1049_1 hHeld ⊢
             refine pq 0 (some 25) ?_ HT_.out rfl rfl (Or.inl ⟨by rfl,?_⟩) ?_ ?_ ?_
             rotate_left;(· intro w';go_simp;with_reducible rfl);rotate_left;(· simp only[Act.put,s1,s2,s3,i64_w,i32_w];rfl)
             refine pq 1 (some 26) ?_ HT_.out rfl rfl (Or.inl ⟨by rfl,?_⟩) ?_ ?_ ?_
             rotate_left;(· intro w';go_simp;with_reducible rfl);rotate_left;(· simp only[Act.put,s1,s2,s3,i64_w,i32_w];rfl)
             refine pq 2 (some 27) ?_ HT_.out rfl rfl (Or.inl ⟨by rfl,?_⟩) ?_ ?_ ?_
             rotate_left;(· intro w';go_simp;with_reducible rfl);rotate_left;(· simp only[Act.put,s1,s2,s3,i64_w,i32_w];rfl)
             refine pq 3 (some 28) ?_ HT_.out rfl rfl (Or.inl ⟨by rfl,?_⟩) ?_ ?_ ?_
             rotate_left;(· intro w';go_simp;with_reducible rfl);rotate_left;(· simp only[Act.put,s1,s2,s3,i64_w,i32_w];rfl)
             refine pq 5 (some 30) ?_ HT_.out rfl rfl (Or.inl ⟨by rfl,?_⟩) ?_ ?_ ?_
             rotate_left;(· intro w';go_simp;with_reducible rfl);rotate_left;(· simp only[Act.put,s1,s2,s3,i64_w,i32_w];rfl)
             refine pq 6 (some 31) ?_ HT_.out rfl rfl (Or.inl ⟨by rfl,?_⟩) ?_ ?_ ?_
             rotate_left;(· intro w';go_simp;with_reducible rfl);rotate_left;(· simp only[Act.put,s1,s2,s3,i64_w,i32_w];rfl)
             refine pq 7 (some 32) ?_ HT_.out rfl rfl (Or.inl ⟨by rfl,?_⟩) ?_ ?_ ?_
             rotate_left;(· intro w';go_simp;with_reducible rfl);rotate_left;(· simp only[Act.put,s1,s2,s3,i64_w,i32_w];rfl)
             refine pq 10 (some 35) ?_ HT_.out rfl rfl (Or.inl ⟨by rfl,?_⟩) ?_ ?_ ?_
             rotate_left;(· intro w';go_simp;with_reducible rfl);rotate_left;(· simp only[Act.put,s1,s2,s3,i64_w,i32_w];rfl)
             refine pq 11 (some 36) ?_ HT_.out rfl rfl (Or.inl ⟨by rfl,?_⟩) ?_ ?_ ?_
             rotate_left;(· intro w';go_simp;with_reducible rfl);rotate_left;(· simp only[Act.put,s1,s2,s3,i64_w,i32_w];rfl)
             refine pq 12 (some 37) ?_ HT_.out rfl rfl (Or.inl ⟨by rfl,?_⟩) ?_ ?_ ?_
             rotate_left;(· intro w';go_simp;with_reducible rfl);rotate_left;(· simp only[Act.put,s1,s2,s3,i64_w,i32_w];rfl)
             refine take_ (i:=4) (N:=some 29) (v:=?_) (a':=?_) #[T,T,T,T,T,T,T,T,F,F,T,T,T,F,F,F,F,F] rfl rfl (take_ofW HT_.out HW_.out (by kernel_rfl)) (fun _ _ _ h=>h) (Or.inl ⟨by rfl,?_⟩) hHeld ?_ ?_
             rotate_left;(· rintro w' ⟨s0,s1,s2,s3,s4,s5⟩;go_simp;with_reducible rfl);rotate_left;(· simp only[Act.put,s1,s2,s3,i64_w,i32_w];rfl)
             refine take_ (i:=8) (N:=some 33) (v:=?_) (a':=?_) #[T,T,T,T,T,T,T,T,T,F,T,T,T,F,F,F,F,F] rfl rfl (take_ofW HT_.out HW_.out (by kernel_rfl)) (fun _ _ _ h=>h) (Or.inl ⟨by rfl,?_⟩) hHeld ?_ ?_
             rotate_left;(· rintro w' ⟨s0,s1,s2,s3,s4,s5⟩;go_simp;with_reducible rfl);rotate_left;(· simp only[Act.put,s1,s2,s3,i64_w,i32_w];rfl)
             refine pq 9 (some 34) ?_ HT_.out rfl rfl (Or.inl ⟨by rfl,?_⟩) ?_ ?_ ?_
             rotate_left;(· intro w';go_simp;with_reducible rfl);rotate_left;(· simp only[Act.put,s1,s2,s3,i64_w,i32_w];rfl)
             refine take_ (i:=13) (N:=some 38) (v:=?_) (a':=?_) #[T,T,T,T,T,T,T,T,T,T,T,T,T,T,F,F,F,F] rfl rfl (take_ofW HT_.out HW_.out (by kernel_rfl)) (fun _ _ _ h=>h) (Or.inl ⟨by rfl,?_⟩) hHeld ?_ ?_
             rotate_left;(· rintro w' ⟨s0,s1,s2,s3,s4,s5⟩;go_simp;with_reducible rfl);rotate_left;(· simp only[Act.put,s1,s2,s3,i64_w,i32_w];rfl)
             refine pq 14 (some 39) ?_ HT_.out rfl rfl (Or.inl ⟨by rfl,?_⟩) ?_ ?_ ?_
             rotate_left;(· intro w';go_simp;with_reducible rfl);rotate_left;(· simp only[Act.put,s1,s2,s3,i64_w,i32_w];rfl)
             refine last_ (i:=15) (N:=some 40) #[T,T,T,T,T,T,T,T,T,T,T,T,T,T,T,T,F,F] rfl rfl (one_of HT_.out (by kernel_rfl)) (by decide) (fun K hK=>?_)
             refine value_ (w1:=?_) (v:=?_) (by rfl) rfl ?_ ?_
             rotate_left 2
             ·go_simp
              constructor
              ·rfl
              ·rfl
             refine hK.out _ _ ?_
             clear hK K
             refine norm_ (a':=?_) ?_ ?_
             rotate_left
             ·show Act.put _ (some 40) _=_
              simp only[Act.put,s1,s2,s3,i64_w,i32_w]
              rfl
             refine last_ (i:=16) (N:=some 41) #[T,T,T,T,T,T,T,T,T,T,T,T,T,T,T,T,T,F] rfl rfl (one_of HT_.out (by kernel_rfl)) (by decide) (fun K hK=>?_)
             refine Kd.N_append_step k69 (w0:=w) w.heap.size (by rfl) (.tmp 25) (.tmp 40) 58 69 (.agg #[(.int .i64 0),(.slice none 0 0)]) 32 rfl Try.underlying58 info69 rfl (by decide) (by omega) u5 x5_1 (⟨wrap64 (((rd_T69 x0_1 0).f0)+((rd_T69 x1_1 0).f0)),(rd_T69 x0_1 0).f1⟩:S69) [.int .i64 (wrap64 (((rd_T69 x0_1 0).f0)+((rd_T69 x1_1 0).f0))),.slice A1047_1 ((rd_T69 x0_1 0).f1).length c1047_1] (fun k_=>((P0_ k_∨P1_ k_)∨w.heap.size≤k_)) (fun k_=>((fun k_=>((P0_ k_∨P1_ k_)∨w.heap.size≤k_))) k_∧some k_≠(u5:Value).ownBlock) rfl rfl ?aP (fun _ hk=>hk) ?aF ?aO ?aB ?aS ?aL ?_
             (case aP=>exact(k69_mkF _ _ (⟨wrap64 (((rd_T69 x0_1 0).f0)+((rd_T69 x1_1 0).f0)),(rd_T69 x0_1 0).f1⟩:S69) (Kd.V_reads' (Kd.V_mono (ok':=(fun k_=>((fun k_=>((P0_ k_∨P1_ k_)∨w.heap.size≤k_))) k_∧some k_≠(u5:Value).ownBlock)) (HL1049_1.out) (fun k_ hk=>⟨hk.1,hk.2⟩))).2.1 (Kd.V_F (Kd.V_mono (ok':=(fun k_=>((fun k_=>((P0_ k_∨P1_ k_)∨w.heap.size≤k_))) k_∧some k_≠(u5:Value).ownBlock)) (HL1049_1.out) (fun k_ hk=>⟨hk.1,hk.2⟩)))))
             (case aB=>exact bz)
             (case aF=>exact(fun k_ hk=>(.inr (Nat.le_trans (below_size bz) hk))))
             (case aO=>exact(Kd.Nz HO_5.out))
             (case aS=>exact(below_size bz))
             (case aL=>have:=LMc32.out;omega)
             intro v1051 w40 ho hb hg hat
             rw[← Ny1050.out] at ho
             have n0_:=Aside0.mk (Kd.V_afterv (ok:=(fun k_=>((P0_ k_∨P1_ k_)∨w.heap.size≤k_))) (Kd.Vz HO_0.out) hg hat)
             have n1_:=Aside0.mk (Kd.V_afterv (ok:=(fun k_=>((P0_ k_∨P1_ k_)∨w.heap.size≤k_))) (Kd.Vz HO_1.out) hg hat)
             have n2_:=Aside0.mk (Kd.V_afterv (ok:=(fun k_=>((P0_ k_∨P1_ k_)∨w.heap.size≤k_))) (Kd.Vz HL1026_1.out) hg hat)
             have n3_:=Aside0.mk (Kd.V_afterv (ok:=(fun k_=>((P0_ k_∨P1_ k_)∨w.heap.size≤k_))) (Kd.Vz HL1027_1.out) hg hat)
             have n4_:=Aside0.mk (Kd.V_afterv (ok:=(fun k_=>((P0_ k_∨P1_ k_)∨w.heap.size≤k_))) (Kd.Vz HL1047_1.out) hg hat)
             have n5_:=Aside0.mk (Kd.V_afterv (ok:=(fun k_=>((P0_ k_∨P1_ k_)∨w.heap.size≤k_))) (Kd.Vz HL1048_1.out) hg hat)
             have n6_:=Aside0.mk (Kd.V_afterv (ok:=(fun k_=>((P0_ k_∨P1_ k_)∨w.heap.size≤k_))) (Kd.Vz HL1049_1.out) hg hat)
             have n7_:=Aside0.mk (hb)
             have n8_:=Aside0.mk (ho)
             clear HO_0
             clear HO_1
             clear HL1026_1
             clear HL1027_1
             clear HL1047_1
             clear HL1048_1
             clear HL1049_1
             clear HB
             clear HO_5
             have HO_0:=n0_
             have HO_1:=n1_
             have HL1026_1:=n2_
             have HL1027_1:=n3_
             have HL1047_1:=n4_
             have HL1048_1:=n5_
             have HL1049_1:=n6_
             have HB:=n7_
             have HO1052:=n8_
             clear n0_ n1_ n2_ n3_ n4_ n5_ n6_ n7_ n8_
             clear ho hb hg hat
             refine hK.out _ _ ?_
             clear hK K
             refine norm_ (a':=?_) ?_ ?_
             rotate_left
             ·show Act.put _ (some 41) _=_
              simp only[Act.put,s1,s2,s3,i64_w,i32_w]
              rfl
             refine pq 17 (some 5) ?_ HT_.out rfl rfl (Or.inl ⟨by rfl,?_⟩) ?_ ?_ ?_
             rotate_left;(· intro w';go_simp;with_reducible rfl);rotate_left;(· simp only[Act.put,s1,s2,s3,i64_w,i32_w];rfl)
             refine done_ (done_of HT_.out (by kernel_rfl)) ?_
             try go_wp2
             have n0_:=Aside0.mk (Kd.V_drew HO_0.out)
             have n1_:=Aside0.mk (Kd.V_drew HO_1.out)
             have n2_:=Aside0.mk (Kd.V_drew HL1026_1.out)
             have n3_:=Aside0.mk (Kd.V_drew HL1027_1.out)
             have n4_:=Aside0.mk (Kd.V_drew HL1047_1.out)
             have n5_:=Aside0.mk (Kd.V_drew HL1048_1.out)
             have n6_:=Aside0.mk (Kd.V_drew HL1049_1.out)
             have n7_:=Aside0.mk (Kd.N_drew HO1052.out)
             have n8_:=Aside0.mk (below_drew1 HB.out)
             clear HO_0
             clear HO_1
             clear HL1026_1
             clear HL1027_1
             clear HL1047_1
             clear HL1048_1
             clear HL1049_1
             clear HO1052
             clear HB
             have HO_0:=n0_
             have HO_1:=n1_
             have HL1026_1:=n2_
             have HL1027_1:=n3_
             have HL1047_1:=n4_
             have HL1048_1:=n5_
             have HL1049_1:=n6_
             have HO1052:=n7_
             have HB:=n8_
             clear n0_ n1_ n2_ n3_ n4_ n5_ n6_ n7_ n8_
             have q42:(1:Int)≤((x0_1.length:Int):Int):=dz
             obtain⟨i042,hi042,_,hsz42,_⟩:=info_parts info69
             have hroom42:x0_1.length≤co36:=(Kd.V_reads' HO_0.out).2.1
             have hC42:Kd.F k69 _ _ (some ad1026) x0_1.length x0_1:=(Kd.V_at (base:=w.heap.size) HO_0.out).2.2
             have hcut42:=cut_from (P:=Try.prog) 58 69 .i64 Try.underlying58 hi042 2 hsz42 (some ad1026) x0_1.length co36 1 (by omega) q42
             have hr42:=Kd.F_cut (m:=(1:Int).toNat) (c:=co36) hC42 (by omega) hroom42
             obtain⟨A42,hA42⟩:∃ Aq_,Aq_=(if co36=(1:Int).toNat then(some ad1026) else((some ad1026):Option Addr).map (·.add ((1:Int).toNat*2))):=⟨_,rfl⟩
             obtain⟨c42,hc42⟩:∃ cq_,cq_=co36-(1:Int).toNat:=⟨_,rfl⟩
             have hy42:y1053.length=x0_1.length-(1:Int).toNat:=(by rw[Ny1053.out,List.length_drop]<;>omega)
             rw[show (x0_1).drop (1:Int).toNat=y1053 from Ny1053.out.symm] at hr42
             replace hr42:Kd.F k69 _ _ A42 y1053.length y1053:=(by rw[hA42];exact hr42)
             rw[← hy42,← hA42,← hc42] at hcut42
             have HO1057:=Aside0.mk (show Kd.V k69 69 _ w.heap.size _ (.slice A42 y1053.length c42) y1053 from Kd.V_mk (by rw[hy42,hc42];exact Nat.sub_le_sub_right hroom42 _) hr42)
             have HC1057:=Aside0.mk (show y1053.length≤c42 from by rw[hy42,hc42];exact Nat.sub_le_sub_right hroom42 _)
             clear hr42 hC42 hroom42 hi042 hsz42 hc42
             have KY42:=Aside0.mk hy42
             have KA42:=Aside0.mk hA42
             clear hy42 hA42
             replace q42:=eq_true q42
             have q43:(1:Int)≤((x1_1.length:Int):Int):=dz
             obtain⟨i043,hi043,_,hsz43,_⟩:=info_parts info69
             have hroom43:x1_1.length≤co37:=(Kd.V_reads' HO_1.out).2.1
             have hC43:Kd.F k69 _ _ (some ad1027) x1_1.length x1_1:=(Kd.V_at (base:=w.heap.size) HO_1.out).2.2
             have hcut43:=cut_from (P:=Try.prog) 58 69 .i64 Try.underlying58 hi043 2 hsz43 (some ad1027) x1_1.length co37 1 (by omega) q43
             have hr43:=Kd.F_cut (m:=(1:Int).toNat) (c:=co37) hC43 (by omega) hroom43
             obtain⟨A43,hA43⟩:∃ Aq_,Aq_=(if co37=(1:Int).toNat then(some ad1027) else((some ad1027):Option Addr).map (·.add ((1:Int).toNat*2))):=⟨_,rfl⟩
             obtain⟨c43,hc43⟩:∃ cq_,cq_=co37-(1:Int).toNat:=⟨_,rfl⟩
             have hy43:y1058.length=x1_1.length-(1:Int).toNat:=(by rw[Ny1058.out,List.length_drop]<;>omega)
             rw[show (x1_1).drop (1:Int).toNat=y1058 from Ny1058.out.symm] at hr43
             replace hr43:Kd.F k69 _ _ A43 y1058.length y1058:=(by rw[hA43];exact hr43)
             rw[← hy43,← hA43,← hc43] at hcut43
             have HO1062:=Aside0.mk (show Kd.V k69 69 _ w.heap.size _ (.slice A43 y1058.length c43) y1058 from Kd.V_mk (by rw[hy43,hc43];exact Nat.sub_le_sub_right hroom43 _) hr43)
             have HC1062:=Aside0.mk (show y1058.length≤c43 from by rw[hy43,hc43];exact Nat.sub_le_sub_right hroom43 _)
             clear hr43 hC43 hroom43 hi043 hsz43 hc43
             have KY43:=Aside0.mk hy43
             have KA43:=Aside0.mk hA43
             clear hy43 hA43
             replace q43:=eq_true q43
             refine start_ (n:=6) (S:=fun w'=>True) (ds:=[]) #[F,F,F,F,F,F] (by kernel_rfl) rfl rfl trivial (fun hHeld=>?_)
             generalize w40.drew=w41 at HO_0 HO_1 HL1026_1 HL1027_1 HL1047_1 HL1048_1 HL1049_1 HO1052 HB HO1057 HO1062 hHeld ⊢
             refine pure_ (i:=0) (N:=some 42) (v:=?_) (a':=?_) #[T,F,F,F,F,F] rfl rfl (by kernel_rfl) (fun _ _ _ h=>h) (Or.inl ⟨by rfl,?_⟩) ?_ ?_
             rotate_left;(· intro w';go_simp;with_reducible rfl);rotate_left;(· simp only[Act.put,s1,s2,s3,i64_w,i32_w];rfl)
             refine pure_ (i:=1) (N:=some 43) (v:=?_) (a':=?_) #[T,T,F,F,F,F] rfl rfl (by kernel_rfl) (fun _ _ _ h=>h) (Or.inl ⟨by rfl,?_⟩) ?_ ?_
             rotate_left;(· intro w';go_simp;with_reducible rfl);rotate_left;(· simp only[Act.put,s1,s2,s3,i64_w,i32_w];rfl)
             refine pure_ (i:=2) (N:=some 44) (v:=?_) (a':=?_) #[T,T,T,F,F,F] rfl rfl (by kernel_rfl) (fun _ _ _ h=>h) (Or.inl ⟨by rfl,?_⟩) ?_ ?_
             rotate_left;(· intro w';go_simp;with_reducible rfl);rotate_left;(· simp only[Act.put,s1,s2,s3,i64_w,i32_w];rfl)
             refine pure_ (i:=3) (N:=some 45) (v:=?_) (a':=?_) #[T,T,T,T,F,F] rfl rfl (by kernel_rfl) (fun _ _ _ h=>h) (Or.inl ⟨by rfl,?_⟩) ?_ ?_
             rotate_left;(· intro w';go_simp;with_reducible rfl);rotate_left;(· simp only[Act.put,s1,s2,s3,i64_w,i32_w];rfl)
             refine pure_ (i:=4) (N:=some 0) (v:=?_) (a':=?_) #[T,T,T,T,T,F] rfl rfl (by kernel_rfl) (fun _ _ _ h=>h) (Or.inl ⟨by rfl,?_⟩) ?_ ?_
             rotate_left;(· intro w';go_simp;with_reducible rfl);rotate_left;(· simp only[Act.put,s1,s2,s3,i64_w,i32_w];rfl)
             refine pure_ (i:=5) (N:=some 1) (v:=?_) (a':=?_) #[T,T,T,T,T,T] rfl rfl (by kernel_rfl) (fun _ _ _ h=>h) (Or.inl ⟨by rfl,?_⟩) ?_ ?_
             rotate_left;(· intro w';go_simp;with_reducible rfl);rotate_left;(· simp only[Act.put,s1,s2,s3,i64_w,i32_w];rfl)
             refine done_ (by kernel_rfl) ?_
             try go_wp2
             go_roundg kj4
             case measure=>have:=HK1.out;have:=HJ4.out;omega
             case rel=>exact⟨(y1053),(y1058),(y1050),H',⟨by have:=HK1.out;have:=HJ4.out;omega⟩,⟨by(with_reducible repeat (first|apply Kd.V_alloc|apply Kd.V_drewN|apply Kd.V_drew));exact HO1057.out⟩,⟨by(with_reducible repeat (first|apply Kd.V_alloc|apply Kd.V_drewN|apply Kd.V_drew));exact HO1062.out⟩,⟨by(with_reducible repeat (first|apply Kd.N_alloc|apply Kd.N_drewN|apply Kd.N_drew));exact HO1052.out⟩,⟨bz⟩⟩
            ·rw[if_neg c34] at H
             exact absurd H (by simp)
           ·rw[if_neg c33] at H
            exact absurd H (by simp)
          ·rw[if_neg c32] at H
           exact absurd H (by simp)
       ·rw[if_neg c12] at H
        exact absurd H (by simp)
      ·rw[if_neg c11] at H
       exact absurd H (by simp)
     ·replace c10:=Bool.eq_false_iff.mpr c10
      subst c10
      have H1:(if x5_1.length+x0_1.length<4398046511104 then((some (x5_1++x0_1:List (S69))).bind fun y1020=>(if y1020.length+x1_1.length<4398046511104 then(some (y1020++x1_1)) else(none))) else(none))=some r:=by rw[if_neg (show ¬ (false=true) by decide)] at H;exact H
      clear H
      have H:=H1
      clear H1
      by_cases c44:x5_1.length+x0_1.length<4398046511104
      ·rw[if_pos c44] at H
       have LMc44:=Aside0.mk c44
       clear c44
       obtain⟨y1020,hy1020⟩:∃ y_:List (S69),y_=(x5_1++x0_1):=⟨_,rfl⟩
       replace H:(if y1020.length+x1_1.length<4398046511104 then(some (y1020++x1_1)) else(none))=some r:=hz hy1020 H
       have Ny1020:=Aside0.mk hy1020
       clear hy1020
       by_cases c45:y1020.length+x1_1.length<4398046511104
       ·rw[if_pos c45] at H
        have LMc45:=Aside0.mk c45
        clear c45
        obtain⟨y1023,hy1023⟩:∃ y_:List (S69),y_=(y1020++x1_1):=⟨_,rfl⟩
        replace H:(some y1023)=some r:=hz hy1023 H
        have Ny1023:=Aside0.mk hy1023
        clear hy1023
        obtain rfl:=Option.some.inj H
        obtain⟨Ao47,co47,eo47⟩:=Kd.V_slice HO_0.out
        subst eo47
        go_wp2_with (first|((with_reducible refine gate_builtin (b:=.append) (xs:=#[.tmp 68,.tmp 69]) rfl ?_);at_builtin;refine Kd.N_append_rows k69 (w0:=w) w.heap.size rfl (.tmp 68) (.tmp 69) 58 69 (.agg #[(.int .i64 0),(.slice none 0 0)]) 32 rfl Try.underlying58 info69 rfl (by decide) (by omega) u5 x5_1 x0_1 _ _ _ (fun k_=>((P0_ k_∨P1_ k_)∨w.heap.size≤k_)) (fun k_=>((fun k_=>((P0_ k_∨P1_ k_)∨w.heap.size≤k_))) k_∧some k_≠(u5:Value).ownBlock) rfl rfl ?aO ?aR (fun _ hk=>hk) ?aF ?aB ?aS ?aL ?_;(case aR=>exact(by skip;exact Kd.V_F (Kd.V_mono (ok':=(fun k_=>((fun k_=>((P0_ k_∨P1_ k_)∨w.heap.size≤k_))) k_∧some k_≠(u5:Value).ownBlock)) (HO_0.out) (fun k_ hk=>⟨hk.1,hk.2⟩))));(case aB=>exact bz);(case aF=>exact(fun k_ hk=>(.inr (Nat.le_trans (below_size bz) hk))));(case aO=>exact(Kd.Nz HO_5.out));(case aS=>exact(below_size bz));(case aL=>have:=LMc44.out;omega);intro v1021 w46 ho hb hg hat;rw[← Ny1020.out] at ho;replace HO_0:=Aside0.mk (Kd.V_afterv (ok:=(fun k_=>((P0_ k_∨P1_ k_)∨w.heap.size≤k_))) (Kd.Vz HO_0.out) hg hat);replace HO_1:=Aside0.mk (Kd.V_afterv (ok:=(fun k_=>((P0_ k_∨P1_ k_)∨w.heap.size≤k_))) (Kd.Vz HO_1.out) hg hat);replace HB:=Aside0.mk (hb);have HO1022:=Aside0.mk (ho);clear HO_5;clear ho hb hg hat;obtain⟨Ao49,co49,eo49⟩:=Kd.V_slice HO_1.out;subst eo49)|((with_reducible refine gate_builtin (b:=.append) (xs:=#[.tmp 70,.tmp 71]) rfl ?_);at_builtin;refine Kd.N_append_rows k69 (w0:=w) w.heap.size rfl (.tmp 70) (.tmp 71) 58 69 (.agg #[(.int .i64 0),(.slice none 0 0)]) 32 rfl Try.underlying58 info69 rfl (by decide) (by omega) v1021 y1020 x1_1 _ _ _ (fun k_=>((P0_ k_∨P1_ k_)∨w.heap.size≤k_)) (fun k_=>((fun k_=>((P0_ k_∨P1_ k_)∨w.heap.size≤k_))) k_∧some k_≠(v1021:Value).ownBlock) rfl rfl ?aO ?aR (fun _ hk=>hk) ?aF ?aB ?aS ?aL ?_;(case aR=>exact(by skip;exact Kd.V_F (Kd.V_mono (ok':=(fun k_=>((fun k_=>((P0_ k_∨P1_ k_)∨w.heap.size≤k_))) k_∧some k_≠(v1021:Value).ownBlock)) (HO_1.out) (fun k_ hk=>⟨hk.1,hk.2⟩))));(case aB=>exact bz);(case aF=>exact(fun k_ hk=>(.inr (Nat.le_trans (below_size bz) hk))));(case aO=>exact(Kd.Nz HO1022.out));(case aS=>exact(below_size bz));(case aL=>have:=LMc45.out;omega);intro v1024 w48 ho hb hg hat;rw[← Ny1023.out] at ho;replace HO_0:=Aside0.mk (Kd.V_afterv (ok:=(fun k_=>((P0_ k_∨P1_ k_)∨w.heap.size≤k_))) (Kd.Vz HO_0.out) hg hat);replace HO_1:=Aside0.mk (Kd.V_afterv (ok:=(fun k_=>((P0_ k_∨P1_ k_)∨w.heap.size≤k_))) (Kd.Vz HO_1.out) hg hat);replace HB:=Aside0.mk (hb);have HO1025:=Aside0.mk (ho);clear HO1022;clear ho hb hg hat))
        go_ret
        exact⟨_,by first|rfl|(simp[errW_none,errW_some]<;>rfl)|(simp[*,errW_none,errW_some]<;>rfl),by(with_reducible repeat (first|apply Kd.N_alloc|apply Kd.N_drewN|apply Kd.N_drew));exact HO1025.out,bz⟩
       ·rw[if_neg c45] at H
        exact absurd H (by simp)
      ·rw[if_neg c44] at H
       exact absurd H (by simp)
end Go.Proofs.Ytpgkpahhohfmhaa.P