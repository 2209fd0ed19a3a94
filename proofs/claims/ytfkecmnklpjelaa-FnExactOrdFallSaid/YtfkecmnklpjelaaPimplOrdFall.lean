/- One Go function comes to what its Lean function tells. -/
import Derived.Test.YtfkecmnklpjelaaP0
import Derived.Test.YtfkecmnklpjelaaPimplordOf
import Derived.Test.YtfkecmnklpjelaaPimplstep
import Derived.Test.YtfkecmnklpjelaaPimpltold
namespace Go.Proofs.Ytfkecmnklpjelaa.P
open Go.RowKit YtfkecmnklpjelaaW.PrintWords YtfkecmnklpjelaaW.PrintLast YtfkecmnklpjelaaW.PrintMore
set_option linter.unusedVariables false
set_option linter.unusedSimpArgs false
/-! ### impl_OrdFall: function 7 (by hand) -/
mutual
def impl_OrdFall.j0:Nat→List Int→List (S60)→Bool→Option ((List (List Int)) × Bool)
 | 0,_,_,_=>none
 | k+1,x1,x6,x26=>if x26=true then(some (([]:List (List Int)),false)) else(impl_OrdFall.l0 k x1 x6 x1 (x1.length:Int) 0)
def impl_OrdFall.l0:Nat→List Int→List (S60)→List Int→Int→Int→Option ((List (List Int)) × Bool)
 | 0,_,_,_,_,_=>none
 | k+1,x1,x6,x27,x28,x29=>if x29<x28 then(if 0≤x29 then(if x29<(x27.length:Int) then(if(rd x27 x29)<0 then(some (([]:List (List Int)),false)) else(if(rd x27 x29)>99 then(some (([]:List (List Int)),false)) else(impl_OrdFall.l0 k x1 x6 x27 x28 (wrap64 (x29+1))))) else(none)) else(none)) else(impl_OrdFall.l1 k x6 (([]:List (List Int))) x1 (x1.length:Int) 0)
def impl_OrdFall.l1:Nat→List (S60)→List (List Int)→List Int→Int→Int→Option ((List (List Int)) × Bool)
 | 0,_,_,_,_,_=>none
 | k+1,x6,x10,x41,x42,x43=>if x43<x42 then(if 0≤x43 then(if x43<(x41.length:Int) then(if(x6.length:Int)=0 then(some (x10,true)) else((impl_step.f k x6 (rd x41 x43)).bind fun t234=>((impl_told.f k t234).bind fun bt237=>(if bt237.2=true then(if x10.length<5864062014805 then(impl_OrdFall.l1 k t234 (x10++[bt237.1]) x41 x42 (wrap64 (x43+1))) else(none)) else(some (([]:List (List Int)),false)))))) else(none)) else(none)) else(some (x10,true))
end
def impl_OrdFall.f (k:Nat)(l0:List Int)(l1:List Int):Option ((List (List Int)) × Bool):=(impl_ordOf.f k l0).bind fun bt225=>(if bt225.2=true then(impl_OrdFall.j0 k l1 bt225.1 (decide ((l1.length:Int)>3000))) else(impl_OrdFall.j0 k l1 bt225.1 true))
theorem impl_OrdFall.mono_l:∀ k,(∀ y0 y1 y2,LeO (impl_OrdFall.j0 k y0 y1 y2) (impl_OrdFall.j0 (k+1) y0 y1 y2))∧(∀ y0 y1 y2 y3 y4,LeO (impl_OrdFall.l0 k y0 y1 y2 y3 y4) (impl_OrdFall.l0 (k+1) y0 y1 y2 y3 y4))∧(∀ y0 y1 y2 y3 y4,LeO (impl_OrdFall.l1 k y0 y1 y2 y3 y4) (impl_OrdFall.l1 (k+1) y0 y1 y2 y3 y4))
 | 0=>⟨fun _ _ _ r h=>by simp[impl_OrdFall.j0] at h,fun _ _ _ _ _ r h=>by simp[impl_OrdFall.l0] at h,fun _ _ _ _ _ r h=>by simp[impl_OrdFall.l1] at h⟩
 | k+1=>by
  obtain⟨ih0,ih1,ih2⟩:=impl_OrdFall.mono_l k
  refine⟨?_,?_,?_⟩
  ·intro y0 y1 y2
   unfold impl_OrdFall.j0
   repeat' first|(with_reducible first|exact ih0 _ _ _|exact ih1 _ _ _ _ _|exact LeO.refl _|exact LeO.none _|refine LeO.ite ?_ ?_|refine LeO.bind ?_ (fun _=>?_))|exact ih0 _ _ _|exact ih1 _ _ _ _ _|exact LeO.none _|refine LeO.ite ?_ ?_|refine LeO.bind ?_ (fun _=>?_)
  ·intro y0 y1 y2 y3 y4
   unfold impl_OrdFall.l0
   repeat' first|(with_reducible first|exact ih1 _ _ _ _ _|exact ih2 _ _ _ _ _|exact LeO.refl _|exact LeO.none _|refine LeO.ite ?_ ?_|refine LeO.bind ?_ (fun _=>?_))|exact ih1 _ _ _ _ _|exact ih2 _ _ _ _ _|exact LeO.none _|refine LeO.ite ?_ ?_|refine LeO.bind ?_ (fun _=>?_)
  ·intro y0 y1 y2 y3 y4
   unfold impl_OrdFall.l1
   repeat' first|(with_reducible first|exact ih2 _ _ _ _ _|exact impl_step.mono _ _ _|exact impl_told.mono _ _|exact LeO.refl _|exact LeO.none _|refine LeO.ite ?_ ?_|refine LeO.bind ?_ (fun _=>?_))|exact ih2 _ _ _ _ _|exact impl_step.mono _ _ _|exact impl_told.mono _ _|exact LeO.none _|refine LeO.ite ?_ ?_|refine LeO.bind ?_ (fun _=>?_)
theorem impl_OrdFall.mono:∀ a0 a1 k,LeO (impl_OrdFall.f k a0 a1) (impl_OrdFall.f (k+1) a0 a1):=by
 intro a0 a1 k
 obtain⟨ih0,ih1,ih2⟩:=impl_OrdFall.mono_l k
 unfold impl_OrdFall.f
 repeat' first|(with_reducible first|exact ih0 _ _ _|exact ih1 _ _ _ _ _|exact ih2 _ _ _ _ _|exact impl_ordOf.mono _ _|exact LeO.refl _|exact LeO.none _|refine LeO.ite ?_ ?_|refine LeO.bind ?_ (fun _=>?_))|exact ih0 _ _ _|exact ih1 _ _ _ _ _|exact ih2 _ _ _ _ _|exact impl_ordOf.mono _ _|exact LeO.none _|refine LeO.ite ?_ ?_|refine LeO.bind ?_ (fun _=>?_)
set_option maxHeartbeats 8000000 in
set_option maxRecDepth 100000 in
theorem impl_OrdFall.calls0 (k:Nat)(A0:Option Addr)(c0:Nat)(l0:List Int)(A1:Option Addr)(c1:Nat)(l1:List Int)(r1:List (List Int))(r2:Bool)(w:World)(hr0:Kd.C (Kd.int .i64) w A0 l0.length l0)(hc0:l0.length≤c0)(hr1:Kd.C (Kd.int .i64) w A1 l1.length l1)(hc1:l1.length≤c1)(h:impl_OrdFall.f k l0 l1=some (r1,r2)) :
  Calls Try.prog 7 #[.slice A0 l0.length c0,.slice A1 l1.length c1] w fun e w'=>∃ v0_:Value,e=.returned (.tuple #[v0_,.bool r2])∧Kd.S (Kd.slice 3 (Kd.int .i64)) 22 w' w.heap.size (fun k_=>(w.heap.size≤k_)) v0_ r1∧Below w.heap.size w w':=by
 have HR0:=Sd.mk hr0
 have HC0:=Sd.mk hc0
 clear hr0 hc0
 have HR1:=Sd.mk hr1
 have HC1:=Sd.mk hc1
 clear hr1 hc1
 have HB:=Sd.mk (Below.refl w.heap.size w)
 have H:((impl_ordOf.f k l0).bind fun bt225=>(if bt225.2=true then(impl_OrdFall.j0 k l1 bt225.1 (decide ((l1.length:Int)>3000))) else(impl_OrdFall.j0 k l1 bt225.1 true)))=some (r1,r2):=h
 clear h
 replace H:=Option.bind_eq_some_iff.mp H
 obtain⟨⟨t225,t226⟩,A30,H⟩:=H
 replace H:(if t226=true then(impl_OrdFall.j0 k l1 t225 (decide ((l1.length:Int)>3000))) else(impl_OrdFall.j0 k l1 t225 true))=some (r1,r2):=H
 have A3:=Sd.mk A30
 clear A30
 have HC4:=Sd.mk H
 clear H
 go_enter Try.func7,Try.ntmps7
 go_upto_region 2 with (first|((with_reducible refine gate_callee (f:=20) rfl ?_);refine goesL_ (some 17) rfl rfl Try.func20 (by kernel_rfl) rfl #[.slice A0 l0.length c0] rfl az ?_;(with_reducible refine(impl_ordOf.calls k _ _ l0 t225 t226 _ ?side1 ?side2 A3.out).mono ?_);(case side1=>exact Kd.Cz HR0.out);(case side2=>exact HC0.out);rintro e w5 ⟨v227,rfl,ho0,hb⟩;refine⟨_,rfl,?_⟩;have HO228:=Sd.mk (Kd.N_lower (Kd.N_mono (ok':=fun k_=>(w.heap.size≤k_)) (Kd.R_N (Kd.R_bound ho0)) (fun k_ hk_=>(Nat.le_trans (below_size bz) hk_.2.1))) (below_size bz));replace HB:=Sd.mk (below_step bz hb);(try clear hb);(try clear hb2);(try clear hk);(try clear hi);(try clear ho0)))
 (try simp only[Act.put,List.setIfInBounds_toArray,List.set_cons_zero,List.set_cons_succ])
 go_cut [26] (fun v26 wc=>∃ (kq:Nat) (x26_3:Bool),v26=.bool x26_3∧Sd (impl_OrdFall.j0 kq l1 t225 x26_3=some (r1,r2))∧Sd (kq≤k)∧Sd (Kd.N k60 60 wc w.heap.size (fun k_=>(w.heap.size≤k_)) v227 t225)∧Sd (Below w.heap.size w wc))
 case first =>
  have H:=HC4.out
  clear HC4
  by_cases c6:t226=true
  ·subst c6
   have H1:(impl_OrdFall.j0 k l1 t225 (decide ((l1.length:Int)>3000)))=some (r1,r2):=by rw[if_pos rfl] at H;exact H
   clear H
   have H:=H1
   clear H1
   have H':=Sd.mk H
   clear H
   go_wp2
   go_meet
   case rel=>exact⟨_,(decide ((l1.length:Int)>3000)),(by first|rfl|(simp;done)|(simp[*];done)),H',⟨by first|omega|exact Nat.le_refl _⟩,⟨by(with_reducible repeat (first|apply Kd.N_alloc|apply Kd.N_drewN|apply Kd.N_drew));exact HO228.out⟩,⟨bz⟩⟩
  ·replace c6:=Bool.eq_false_iff.mpr c6
   subst c6
   have H1:(impl_OrdFall.j0 k l1 t225 true)=some (r1,r2):=by rw[if_neg (show ¬ (false=true) by decide)] at H;exact H
   clear H
   have H:=H1
   clear H1
   have H':=Sd.mk H
   clear H
   go_wp2
   go_meet
   case rel=>exact⟨_,(true),(by first|rfl|(simp;done)|(simp[*];done)),H',⟨by first|omega|exact Nat.le_refl _⟩,⟨by(with_reducible repeat (first|apply Kd.N_alloc|apply Kd.N_drewN|apply Kd.N_drew));exact HO228.out⟩,⟨bz⟩⟩
 case rest =>
  clear HC4
  try clear c1
  try clear c2
  try clear p2
  try clear c6
  obtain⟨kq,x26_3,rfl,HA,HJ3,HO_6,HB⟩:=hcut
  cases kq with
  | zero=>exact absurd HA.out (by simp[impl_OrdFall.j0])
  | succ kj3 =>
   have H:=HA.out
   clear HA
   simp only[impl_OrdFall.j0] at H
   by_cases c7:x26_3=true
   ·subst c7
    have H1:(some (([]:List (List Int)),false))=some (r1,r2):=by rw[if_pos rfl] at H;exact H
    clear H
    have H:=H1
    clear H1
    simp only[Option.some.injEq,Prod.mk.injEq] at H
    obtain⟨rfl,rfl⟩:=H
    go_wp2
    go_ret2
    exact⟨_,by first|rfl|(simp[errW_none,errW_some]<;>rfl)|(simp[*,errW_none,errW_some]<;>rfl),by first|exact Kd.S_nil _ _ _ _ _|exact Kd.N_nil _ _ _ _ _|exact Kd.V_nil _ _ _ _ _|exact Kd.Q_nil _ _ _ _ _|exact Kd.R_nil _ _ _ _ _,bz⟩
   ·replace c7:=Bool.eq_false_iff.mpr c7
    subst c7
    have H1:(impl_OrdFall.l0 kj3 l1 t225 l1 (l1.length:Int) 0)=some (r1,r2):=by rw[if_neg (show ¬ (false=true) by decide)] at H;exact H
    clear H
    have H:=H1
    clear H1
    have H':=Sd.mk H
    clear H
    go_wp2
    go_loopg [29] kj3 (fun kq v29 w'=>∃ (x29_2:Int),v29=.int .i64 x29_2∧Sd (impl_OrdFall.l0 kq l1 t225 l1 (l1.length:Int) x29_2=some (r1,r2))∧Sd (kq≤kj3)∧Sd (Kd.N k60 60 w' w.heap.size (fun k_=>(w.heap.size≤k_)) v227 t225)∧Sd (Below w.heap.size w w'))
    case atStart=>exact⟨(0),(by first|rfl|(simp;done)|(simp[*];done)),H',⟨Nat.le_refl _⟩,⟨by(with_reducible repeat (first|apply Kd.N_alloc|apply Kd.N_drewN|apply Kd.N_drew));exact HO_6.out⟩,⟨bz⟩⟩
    case round =>
     clear H'
     try clear c1
     try clear c2
     try clear p2
     try clear c6
     try clear c7
     try clear p2
     obtain⟨x29_2,rfl,HA,HK2,HO_6,HB⟩:=hrel
     cases gk with
     | zero=>exact absurd HA.out (by simp[impl_OrdFall.l0])
     | succ k2 =>
      have H:=HA.out
      clear HA
      simp only[impl_OrdFall.l0] at H
      by_cases c8:x29_2<(l1.length:Int)
      ·rw[if_pos c8] at H
       have c8b0:decide (x29_2<(l1.length:Int))=true:=decide_eq_true c8
       clear c8
       by_cases c9:0≤x29_2
       ·rw[if_pos c9] at H
        have c9b0:decide (0≤x29_2)=true:=decide_eq_true c9
        clear c9
        by_cases c10:x29_2<(l1.length:Int)
        ·rw[if_pos c10] at H
         have c10b0:decide (x29_2<(l1.length:Int))=true:=decide_eq_true c10
         clear c10
         by_cases c11:(rd l1 x29_2)<0
         ·rw[if_pos c11] at H
          have c11b0:decide ((rd l1 x29_2)<0)=true:=decide_eq_true c11
          clear c11
          simp only[Option.some.injEq,Prod.mk.injEq] at H
          obtain⟨rfl,rfl⟩:=H
          have p229:0≤(x29_2:Int):=dz
          have q229:x29_2<(l1.length:Int):=dz
          obtain⟨ad229,e229,hx229_0⟩:=Kd.at_int HR1.out x29_2 p229 q229
          cases e229
          replace hx229_0:=(HB.out.cell (World.block_lt_of_cell? w _ hx229_0)).trans hx229_0
          replace p229:=eq_true p229
          replace q229:=eq_true q229
          go_wp2
          go_ret2
          exact⟨_,by first|rfl|(simp[errW_none,errW_some]<;>rfl)|(simp[*,errW_none,errW_some]<;>rfl),by first|exact Kd.S_nil _ _ _ _ _|exact Kd.N_nil _ _ _ _ _|exact Kd.V_nil _ _ _ _ _|exact Kd.Q_nil _ _ _ _ _|exact Kd.R_nil _ _ _ _ _,bz⟩
         ·rw[if_neg c11] at H
          have c11b0:decide ((rd l1 x29_2)<0)=false:=decide_eq_false c11
          clear c11
          by_cases c12:(rd l1 x29_2)>99
          ·rw[if_pos c12] at H
           have c12b0:decide (99<(rd l1 x29_2))=true:=decide_eq_true c12
           clear c12
           simp only[Option.some.injEq,Prod.mk.injEq] at H
           obtain⟨rfl,rfl⟩:=H
           have p229:0≤(x29_2:Int):=dz
           have q229:x29_2<(l1.length:Int):=dz
           obtain⟨ad229,e229,hx229_0⟩:=Kd.at_int HR1.out x29_2 p229 q229
           cases e229
           replace hx229_0:=(HB.out.cell (World.block_lt_of_cell? w _ hx229_0)).trans hx229_0
           replace p229:=eq_true p229
           replace q229:=eq_true q229
           go_wp2
           go_ret2
           exact⟨_,by first|rfl|(simp[errW_none,errW_some]<;>rfl)|(simp[*,errW_none,errW_some]<;>rfl),by first|exact Kd.S_nil _ _ _ _ _|exact Kd.N_nil _ _ _ _ _|exact Kd.V_nil _ _ _ _ _|exact Kd.Q_nil _ _ _ _ _|exact Kd.R_nil _ _ _ _ _,bz⟩
          ·rw[if_neg c12] at H
           have c12b0:decide (99<(rd l1 x29_2))=false:=decide_eq_false c12
           clear c12
           have H':=Sd.mk H
           clear H
           have p229:0≤(x29_2:Int):=dz
           have q229:x29_2<(l1.length:Int):=dz
           obtain⟨ad229,e229,hx229_0⟩:=Kd.at_int HR1.out x29_2 p229 q229
           cases e229
           replace hx229_0:=(HB.out.cell (World.block_lt_of_cell? w _ hx229_0)).trans hx229_0
           replace p229:=eq_true p229
           replace q229:=eq_true q229
           go_wp2
           go_roundg k2
           case measure=>have:=HJ3.out;have:=HK2.out;omega
           case rel=>exact⟨(wrap64 (x29_2+1)),(by first|rfl|(simp;done)|(simp[*];done)),H',⟨by have:=HJ3.out;have:=HK2.out;omega⟩,⟨by(with_reducible repeat (first|apply Kd.N_alloc|apply Kd.N_drewN|apply Kd.N_drew));exact HO_6.out⟩,⟨bz⟩⟩
        ·rw[if_neg c10] at H
         exact absurd H (by simp)
       ·rw[if_neg c9] at H
        exact absurd H (by simp)
      ·rw[if_neg c8] at H
       have c8b0:decide (x29_2<(l1.length:Int))=false:=decide_eq_false c8
       clear c8
       obtain⟨y230,hy230⟩:∃ y_:List (List Int),y_=(([]:List (List Int))):=⟨_,rfl⟩
       replace H:(impl_OrdFall.l1 k2 t225 y230 l1 (l1.length:Int) 0)=some (r1,r2):=hz hy230 H
       have Ny230:=Sd.mk hy230
       clear hy230
       have H':=Sd.mk H
       clear H
       go_wp2_with (first|((with_reducible refine gate_dst (N:=40) rfl ?_);refine Kd.S_lit (Kd.slice 3 (Kd.int .i64)) _ 22 ?hg (N:=40) ?hd (xs:=([]:List (List Int))) (inner:=[]) (ok:=fun _=>True) (okp:=fun _=>True) ?hr ?hp (fun _ hk=>hk) trivial (Below.refl _ _) (Nat.le_refl _) (by simp) ?_;(case hd=>rfl);(case hg=>rfl);(case hr=>first|(go_simp;done)|(go_simp;rfl));(case hp=>exact(Reps.none _ _));intro v231 w13 ho14 hb hg_ hnew_;clear hg_ hnew_;(first|rw[← Ny230.out] at ho14|(simp only[Int.reduceToNat] at ho14;rw[← Ny230.out] at ho14));replace HO_6:=Sd.mk (Kd.N_elder' (Kd.Nz HO_6.out) (Kd.S_base ho14) hb);have HO232:=Sd.mk (Kd.S_lower (Kd.S_newM (M:=fun k_=>(w.heap.size≤k_)) ho14 (below_size bz) (fun k_ h_=>h_)) (below_size bz));replace HB:=Sd.mk (below_step bz hb);clear hb ho14))
       go_loopg [6,10,43] k2 (fun kq v6 v10 v43 w'=>∃ (x6_3:List (S60)) (x10_3:List (List Int)) (x43_3:Int),v43=.int .i64 x43_3∧Sd (impl_OrdFall.l1 kq x6_3 x10_3 l1 (l1.length:Int) x43_3=some (r1,r2))∧Sd (kq≤k2)∧Sd (Kd.N k60 60 w' w.heap.size (fun k_=>(w.heap.size≤k_)∧some k_≠(v10:Value).ownBlock) v6 x6_3)∧Sd (Kd.S (Kd.slice 3 (Kd.int .i64)) 22 w' w.heap.size (fun k_=>(w.heap.size≤k_)) v10 x10_3)∧Sd (Below w.heap.size w w'))
       case atStart=>exact⟨(t225),(y230),(0),(by first|rfl|(simp;done)|(simp[*];done)),H',⟨Nat.le_refl _⟩,⟨by(with_reducible repeat (first|apply Kd.N_alloc|apply Kd.N_drewN|apply Kd.N_drew));exact HO_6.out⟩,⟨by(with_reducible repeat (first|apply Kd.S_alloc|apply Kd.S_drewN|apply Kd.S_drew));exact Kd.S_mono HO232.out (fun _ hk=>hk.1)⟩,⟨bz⟩⟩
       case round =>
        clear H'
        try clear c1
        try clear c2
        try clear p2
        try clear q2
        try clear hx2
        try clear c6
        try clear p6
        try clear c7
        try clear c8
        try clear c8b0
        try clear c9
        try clear c9b0
        try clear c10
        try clear c10b0
        try clear c11
        try clear c11b0
        try clear c12
        try clear c12b0
        try clear hx229_0
        try clear p2
        try clear p229
        try clear q229
        obtain⟨x6_3,x10_3,x43_3,rfl,HA,HK3,HO_6,HO_10,HB⟩:=hrel
        cases gk with
        | zero=>exact absurd HA.out (by simp[impl_OrdFall.l1])
        | succ k3 =>
         have H:=HA.out
         clear HA
         simp only[impl_OrdFall.l1] at H
         by_cases c15:x43_3<(l1.length:Int)
         ·rw[if_pos c15] at H
          have c15b0:decide (x43_3<(l1.length:Int))=true:=decide_eq_true c15
          clear c15
          by_cases c16:0≤x43_3
          ·rw[if_pos c16] at H
           have c16b0:decide (0≤x43_3)=true:=decide_eq_true c16
           clear c16
           by_cases c17:x43_3<(l1.length:Int)
           ·rw[if_pos c17] at H
            have c17b0:decide (x43_3<(l1.length:Int))=true:=decide_eq_true c17
            clear c17
            by_cases c18:(x6_3.length:Int)=0
            ·rw[if_pos c18] at H
             have c18b0:((x6_3.length:Int) == 0)=true:=beq_iff_eq.mpr c18
             have c18b1:((x6_3.length:Int) != 0)=false:=bne_eq_false_iff_eq.mpr c18
             clear c18
             simp only[Option.some.injEq,Prod.mk.injEq] at H
             obtain⟨rfl,rfl⟩:=H
             have p233:0≤(x43_3:Int):=dz
             have q233:x43_3<(l1.length:Int):=dz
             obtain⟨ad233,e233,hx233_0⟩:=Kd.at_int HR1.out x43_3 p233 q233
             cases e233
             replace hx233_0:=(HB.out.cell (World.block_lt_of_cell? w _ hx233_0)).trans hx233_0
             replace p233:=eq_true p233
             replace q233:=eq_true q233
             obtain⟨Ao19,co19,eo19⟩:=Kd.N_slice HO_6.out
             subst eo19
             go_wp2
             go_ret2
             exact⟨_,by first|rfl|(simp[errW_none,errW_some]<;>rfl)|(simp[*,errW_none,errW_some]<;>rfl),by(with_reducible repeat (first|apply Kd.S_alloc|apply Kd.S_drewN|apply Kd.S_drew));exact HO_10.out,bz⟩
            ·rw[if_neg c18] at H
             have c18b0:((x6_3.length:Int) == 0)=false:=beq_eq_false_iff_ne.mpr c18
             have c18b1:((x6_3.length:Int) != 0)=true:=bne_iff_ne.mpr c18
             have c18b2:¬ (x6_3=[]):=fun h_=>c18 (by rw[h_];rfl)
             replace H:=Option.bind_eq_some_iff.mp H
             obtain⟨t234,A200,H⟩:=H
             replace H:((impl_told.f k3 t234).bind fun bt237=>(if bt237.2=true then(if x10_3.length<5864062014805 then(impl_OrdFall.l1 k3 t234 (x10_3++[bt237.1]) l1 (l1.length:Int) (wrap64 (x43_3+1))) else(none)) else(some (([]:List (List Int)),false))))=some (r1,r2):=H
             have A20:=Sd.mk A200
             clear A200
             replace H:=Option.bind_eq_some_iff.mp H
             obtain⟨⟨t237,t238⟩,A210,H⟩:=H
             replace H:(if t238=true then(if x10_3.length<5864062014805 then(impl_OrdFall.l1 k3 t234 (x10_3++[t237]) l1 (l1.length:Int) (wrap64 (x43_3+1))) else(none)) else(some (([]:List (List Int)),false)))=some (r1,r2):=H
             have A21:=Sd.mk A210
             clear A210
             by_cases c22:t238=true
             ·subst c22
              have H1:(if x10_3.length<5864062014805 then(impl_OrdFall.l1 k3 t234 (x10_3++[t237]) l1 (l1.length:Int) (wrap64 (x43_3+1))) else(none))=some (r1,r2):=by rw[if_pos rfl] at H;exact H
              clear H
              have H:=H1
              clear H1
              by_cases c23:x10_3.length<5864062014805
              ·rw[if_pos c23] at H
               have LMc23:=Sd.mk c23
               clear c23
               obtain⟨y241,hy241⟩:∃ y_:List (List Int),y_=(x10_3++[t237]):=⟨_,rfl⟩
               replace H:(impl_OrdFall.l1 k3 t234 y241 l1 (l1.length:Int) (wrap64 (x43_3+1)))=some (r1,r2):=hz hy241 H
               have Ny241:=Sd.mk hy241
               clear hy241
               have H':=Sd.mk H
               clear H
               have p233:0≤(x43_3:Int):=dz
               have q233:x43_3<(l1.length:Int):=dz
               obtain⟨ad233,e233,hx233_0⟩:=Kd.at_int HR1.out x43_3 p233 q233
               cases e233
               replace hx233_0:=(HB.out.cell (World.block_lt_of_cell? w _ hx233_0)).trans hx233_0
               replace p233:=eq_true p233
               replace q233:=eq_true q233
               obtain⟨Ao24,co24,eo24⟩:=Kd.N_slice HO_6.out
               subst eo24
               go_wp2_with (first|((with_reducible refine gate_callee (f:=21) rfl ?_);refine goesL_ (some 52) rfl rfl Try.func21 (by kernel_rfl) rfl #[.slice Ao24 x6_3.length co24,.int .i64 (rd l1 x43_3)] rfl az ?_;(with_reducible refine(impl_step.calls k3 (fun k_=>((w.heap.size≤k_)∧some k_≠(u10:Value).ownBlock)) _ _ x6_3 (rd l1 x43_3) t234 _ ?side1 A20.out).mono ?_);(case side1=>exact Kd.N_V (HO_6.out));rintro e w25 ⟨v235,rfl,ho0,hb⟩;refine⟨_,rfl,?_⟩;replace HO_6:=Sd.mk (Kd.N_elder' (Kd.Nz HO_6.out) (Kd.N_base ho0) hb);have HO236:=Sd.mk (Kd.N_lower (Kd.N_mono (ok':=fun k_=>(w.heap.size≤k_)∧some k_≠(u10:Value).ownBlock) ho0 (fun k_ hk_=>⟨Or.elim hk_ (fun hs_=>hs_.1) (fun hn_=>(Nat.le_trans (below_size bz) hn_)),Or.elim hk_ (fun hs_=>hs_.2) (fun hn_=>(Kd.fresh' (Kd.S_lt (by(with_reducible repeat (first|apply Kd.S_alloc|apply Kd.S_drewN|apply Kd.S_drew));exact HO_10.out)) k_ hn_))⟩)) (below_size bz));replace HO_10:=Sd.mk (Kd.S_below (by(with_reducible repeat (first|apply Kd.S_alloc|apply Kd.S_drewN|apply Kd.S_drew));exact HO_10.out) hb);replace HB:=Sd.mk (below_step bz hb);(try clear hb);(try clear hb2);(try clear hk);(try clear hi);(try clear ho0);obtain⟨Ao26,co26,eo26⟩:=Kd.N_slice HO236.out;subst eo26)|((with_reducible refine gate_callee (f:=22) rfl ?_);refine goesL_ (some 55) rfl rfl Try.func22 (by kernel_rfl) rfl #[.slice Ao26 t234.length co26] rfl az ?_;(with_reducible refine(impl_told.calls k3 _ _ t234 t237 true _ ?side1 ?side2 A21.out).mono ?_);(case side1=>exact Kd.Cz (Kd.N_reads' HO236.out).2.2);(case side2=>exact(Kd.N_reads' HO236.out).2.1);rintro e w27 ⟨v239,rfl,ho0,hb⟩;refine⟨_,rfl,?_⟩;replace HO_6:=Sd.mk (Kd.N_elder' (Kd.Nz HO_6.out) (Kd.R_base ho0) hb);replace HO_10:=Sd.mk (Kd.S_elder' (by(with_reducible repeat (first|apply Kd.S_alloc|apply Kd.S_drewN|apply Kd.S_drew));exact HO_10.out) (Kd.R_base ho0) hb);replace HO236:=Sd.mk (Kd.N_elder' (Kd.Nz HO236.out) (Kd.R_base ho0) hb);have HO240:=Sd.mk (Kd.R_lower (Kd.R_newM (M:=fun k_=>(w.heap.size≤k_)) ho0 (below_size bz) (fun k_ h_=>h_)) (below_size bz));replace HB:=Sd.mk (below_step bz hb);(try clear hb);(try clear hb2);(try clear hk);(try clear hi);(try clear ho0);obtain⟨Ao29,co29,eo29⟩:=Kd.R_slice HO240.out;subst eo29)|((with_reducible refine gate_builtin (b:=.append) (xs:=#[.tmp 60,.tmp 62]) rfl ?_);at_builtin;refine Kd.S_append (Kd.slice 3 (Kd.int .i64)) (w0:=w) w.heap.size rfl (.tmp 60) (.tmp 62) 23 22 (.slice none 0 0) 24 rfl Try.underlying23 info22 rfl (by decide) (by omega) u10 x10_3 t237 [.slice Ao29 t237.length co29] (fun k_=>(w.heap.size≤k_)) (fun k_=>some k_=(.slice Ao29 t237.length co29:Value).ownBlock) rfl rfl ?aP (fun k_ hk_=>((Kd.R_mono (ok':=fun k_=>((fun k_=>(w.heap.size≤k_))) k_∧some k_≠(u10:Value).ownBlock) (Kd.R_apart' (HO240.out) (Kd.S_typed HO_10.out) (by decide)) (fun k_ hk=>⟨hk.1.1,hk.2⟩))).1 k_ hk_.symm) ?aF ?aO ?aB ?aS ?aL ?_;(case aP=>exact Kd.M_row (Kd.R_mono (Kd.R_tight rfl (Kd.R_mono (ok':=fun k_=>((fun k_=>(w.heap.size≤k_))) k_∧some k_≠(u10:Value).ownBlock) (Kd.R_apart' (HO240.out) (Kd.S_typed HO_10.out) (by decide)) (fun k_ hk=>⟨hk.1.1,hk.2⟩))) (fun _ h_=>h_)));(case aB=>exact bz);(case aF=>exact(fun k_ hk=>(Nat.le_trans (below_size bz) hk)));(case aO=>exact(by(with_reducible repeat (first|apply Kd.S_alloc|apply Kd.S_drewN|apply Kd.S_drew));exact Kd.S_mono HO_10.out (fun k_ hk=>⟨hk.1,fun e_=>hk.2 e_⟩)));(case aS=>exact(below_size bz));(case aL=>have:=LMc23.out;omega);intro v242 w28 ho hb hg hat;rw[← Ny241.out] at ho;replace HO_6:=Sd.mk (Kd.N_afterv (ok:=(fun k_=>(w.heap.size≤k_)∧some k_≠(.slice Ao26 t234.length co26:Value).ownBlock∧some k_≠(.slice Ao29 t237.length co29:Value).ownBlock)) (Kd.Nz <| Kd.N_mono HO_6.out (fun _ hk=>⟨⟨hk.1.1.1,⟨hk.1.2,hk.2⟩⟩,hk.1.1.2⟩)) hg hat);replace HO236:=Sd.mk (Kd.N_afterv (ok:=(fun k_=>(w.heap.size≤k_)∧some k_≠(.slice Ao29 t237.length co29:Value).ownBlock)) (Kd.Nz <| Kd.N_mono HO236.out (fun _ hk=>⟨⟨hk.1.1,hk.2⟩,hk.1.2⟩)) hg hat);replace HB:=Sd.mk (hb);have HO243:=Sd.mk (ho);clear HO_10 HO240;clear ho hb hg hat))
               go_roundg k3
               case measure=>have:=HJ3.out;have:=HK2.out;have:=HK3.out;omega
               case rel=>exact⟨(t234),(y241),(wrap64 (x43_3+1)),(by first|rfl|(simp;done)|(simp[*];done)),H',⟨by have:=HJ3.out;have:=HK2.out;have:=HK3.out;omega⟩,⟨Kd.Nz <| Kd.N_mono HO236.out (fun _ hk=>⟨hk.1.1,hk.2⟩)⟩,⟨by(with_reducible repeat (first|apply Kd.S_alloc|apply Kd.S_drewN|apply Kd.S_drew));exact HO243.out⟩,⟨bz⟩⟩
              ·rw[if_neg c23] at H
               exact absurd H (by simp)
             ·replace c22:=Bool.eq_false_iff.mpr c22
              subst c22
              have H1:(some (([]:List (List Int)),false))=some (r1,r2):=by rw[if_neg (show ¬ (false=true) by decide)] at H;exact H
              clear H
              have H:=H1
              clear H1
              simp only[Option.some.injEq,Prod.mk.injEq] at H
              obtain⟨rfl,rfl⟩:=H
              have p233:0≤(x43_3:Int):=dz
              have q233:x43_3<(l1.length:Int):=dz
              obtain⟨ad233,e233,hx233_0⟩:=Kd.at_int HR1.out x43_3 p233 q233
              cases e233
              replace hx233_0:=(HB.out.cell (World.block_lt_of_cell? w _ hx233_0)).trans hx233_0
              replace p233:=eq_true p233
              replace q233:=eq_true q233
              obtain⟨Ao30,co30,eo30⟩:=Kd.N_slice HO_6.out
              subst eo30
              go_wp2_with (first|((with_reducible refine gate_callee (f:=21) rfl ?_);refine goesL_ (some 52) rfl rfl Try.func21 (by kernel_rfl) rfl #[.slice Ao30 x6_3.length co30,.int .i64 (rd l1 x43_3)] rfl az ?_;(with_reducible refine(impl_step.calls k3 (fun k_=>((w.heap.size≤k_)∧some k_≠(u10:Value).ownBlock)) _ _ x6_3 (rd l1 x43_3) t234 _ ?side1 A20.out).mono ?_);(case side1=>exact Kd.N_V (HO_6.out));rintro e w31 ⟨v235,rfl,ho0,hb⟩;refine⟨_,rfl,?_⟩;replace HO_6:=Sd.mk (Kd.N_elder' (Kd.Nz HO_6.out) (Kd.N_base ho0) hb);have HO236:=Sd.mk (Kd.N_lower (Kd.N_mono (ok':=fun k_=>(w.heap.size≤k_)∧some k_≠(u10:Value).ownBlock) ho0 (fun k_ hk_=>⟨Or.elim hk_ (fun hs_=>hs_.1) (fun hn_=>(Nat.le_trans (below_size bz) hn_)),Or.elim hk_ (fun hs_=>hs_.2) (fun hn_=>(Kd.fresh' (Kd.S_lt (by(with_reducible repeat (first|apply Kd.S_alloc|apply Kd.S_drewN|apply Kd.S_drew));exact HO_10.out)) k_ hn_))⟩)) (below_size bz));replace HO_10:=Sd.mk (Kd.S_below (by(with_reducible repeat (first|apply Kd.S_alloc|apply Kd.S_drewN|apply Kd.S_drew));exact HO_10.out) hb);replace HB:=Sd.mk (below_step bz hb);(try clear hb);(try clear hb2);(try clear hk);(try clear hi);(try clear ho0);obtain⟨Ao32,co32,eo32⟩:=Kd.N_slice HO236.out;subst eo32)|((with_reducible refine gate_callee (f:=22) rfl ?_);refine goesL_ (some 55) rfl rfl Try.func22 (by kernel_rfl) rfl #[.slice Ao32 t234.length co32] rfl az ?_;(with_reducible refine(impl_told.calls k3 _ _ t234 t237 false _ ?side1 ?side2 A21.out).mono ?_);(case side1=>exact Kd.Cz (Kd.N_reads' HO236.out).2.2);(case side2=>exact(Kd.N_reads' HO236.out).2.1);rintro e w33 ⟨v239,rfl,ho0,hb⟩;refine⟨_,rfl,?_⟩;replace HO_6:=Sd.mk (Kd.N_elder' (Kd.Nz HO_6.out) (Kd.R_base ho0) hb);replace HO_10:=Sd.mk (Kd.S_elder' (by(with_reducible repeat (first|apply Kd.S_alloc|apply Kd.S_drewN|apply Kd.S_drew));exact HO_10.out) (Kd.R_base ho0) hb);replace HO236:=Sd.mk (Kd.N_elder' (Kd.Nz HO236.out) (Kd.R_base ho0) hb);have HO240:=Sd.mk (Kd.R_lower (Kd.R_newM (M:=fun k_=>(w.heap.size≤k_)) ho0 (below_size bz) (fun k_ h_=>h_)) (below_size bz));replace HB:=Sd.mk (below_step bz hb);(try clear hb);(try clear hb2);(try clear hk);(try clear hi);(try clear ho0)))
              go_ret2
              exact⟨_,by first|rfl|(simp[errW_none,errW_some]<;>rfl)|(simp[*,errW_none,errW_some]<;>rfl),by first|exact Kd.S_nil _ _ _ _ _|exact Kd.N_nil _ _ _ _ _|exact Kd.V_nil _ _ _ _ _|exact Kd.Q_nil _ _ _ _ _|exact Kd.R_nil _ _ _ _ _,bz⟩
           ·rw[if_neg c17] at H
            exact absurd H (by simp)
          ·rw[if_neg c16] at H
           exact absurd H (by simp)
         ·rw[if_neg c15] at H
          have c15b0:decide (x43_3<(l1.length:Int))=false:=decide_eq_false c15
          clear c15
          simp only[Option.some.injEq,Prod.mk.injEq] at H
          obtain⟨rfl,rfl⟩:=H
          go_wp2
          go_ret2
          exact⟨_,by first|rfl|(simp[errW_none,errW_some]<;>rfl)|(simp[*,errW_none,errW_some]<;>rfl),by(with_reducible repeat (first|apply Kd.S_alloc|apply Kd.S_drewN|apply Kd.S_drew));exact HO_10.out,bz⟩
theorem impl_OrdFall.calls (k:Nat)(A0:Option Addr)(c0:Nat)(l0:List Int)(A1:Option Addr)(c1:Nat)(l1:List Int)(r1:List (List Int))(r2:Bool)(w:World)(hr0:Kd.C (Kd.int .i64) w A0 l0.length l0)(hc0:l0.length≤c0)(hr1:Kd.C (Kd.int .i64) w A1 l1.length l1)(hc1:l1.length≤c1)(h:impl_OrdFall.f k l0 l1=some (r1,r2)) :
  Calls Try.prog 7 #[.slice A0 l0.length c0,.slice A1 l1.length c1] w fun e w'=>∃ v0_:Value,e=.returned (.tuple #[v0_,.bool r2])∧Kd.S (Kd.slice 3 (Kd.int .i64)) 22 w' w.heap.size (fun _=>True) v0_ r1∧Below w.heap.size w w':=by
 refine(impl_OrdFall.calls0 k A0 c0 l0 A1 c1 l1 r1 r2 w hr0 hc0 hr1 hc1 h).mono ?_
 rintro e w' ⟨v0_,rfl,ho,hb⟩
 exact⟨v0_,rfl,Kd.S_mono ho (fun _ _=>trivial),hb⟩
end Go.Proofs.Ytfkecmnklpjelaa.P