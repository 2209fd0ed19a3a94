/- One Go function comes to what its Lean function tells. -/
import Derived.Test.YtfblcanijhnhmaaP0
import Derived.Test.YtfblcanijhnhmaaPimplnumber
import Derived.Test.YtfblcanijhnhmaaPimplordOf
import Derived.Test.YtfblcanijhnhmaaPimpltimes
import Derived.Test.YtfblcanijhnhmaaPimpltold
namespace Go.Proofs.Ytfblcanijhnhmaa.P
open Go.RowKit YtfblcanijhnhmaaW.PrintWords YtfblcanijhnhmaaW.PrintLast YtfblcanijhnhmaaW.PrintMore
set_option linter.unusedVariables false
set_option linter.unusedSimpArgs false
/-! ### impl_OrdRaise: function 28 -/
mutual
def impl_OrdRaise.j0:Nat→Int→List (S61)→Bool→Option (List Int × Bool)
 | 0,_,_,_=>none
 | k+1,x1,x6,x25=>if x25=true then(some (([]:List Int),false)) else((impl_number.f 1).bind fun t994=>(impl_OrdRaise.l0 k x6 t994 x1 0))
def impl_OrdRaise.l0:Nat→List (S61)→List (S61)→Int→Int→Option (List Int × Bool)
 | 0,_,_,_,_=>none
 | k+1,x6,x8,x27,x28=>if x28<x27 then((impl_times.f k x8 x6).bind fun t1001=>((impl_told.f k t1001).bind fun bt1004=>(if bt1004.2=true then(impl_OrdRaise.l0 k x6 t1001 x27 (wrap64 (x28+1))) else(some (([]:List Int),false))))) else((impl_told.f k x8).bind fun bt997=>(some (bt997.1,bt997.2)))
end
def impl_OrdRaise.f (k:Nat)(l0:List Int)(a1:Int):Option (List Int × Bool):=(impl_ordOf.f k l0).bind fun bt990=>(if bt990.2=true then(if a1<0 then(impl_OrdRaise.j0 k a1 bt990.1 true) else(impl_OrdRaise.j0 k a1 bt990.1 (decide (a1>9)))) else(impl_OrdRaise.j0 k a1 bt990.1 true))
theorem impl_OrdRaise.mono_l:∀ k,(∀ y0 y1 y2,LeO (impl_OrdRaise.j0 k y0 y1 y2) (impl_OrdRaise.j0 (k+1) y0 y1 y2))∧(∀ y0 y1 y2 y3,LeO (impl_OrdRaise.l0 k y0 y1 y2 y3) (impl_OrdRaise.l0 (k+1) y0 y1 y2 y3))
 | 0=>⟨fun _ _ _ r h=>by simp[impl_OrdRaise.j0] at h,fun _ _ _ _ r h=>by simp[impl_OrdRaise.l0] at h⟩
 | k+1=>by
  obtain⟨ih0,ih1⟩:=impl_OrdRaise.mono_l k
  refine⟨?_,?_⟩
  ·intro y0 y1 y2
   unfold impl_OrdRaise.j0
   repeat' first|(with_reducible first|exact ih0 _ _ _|exact ih1 _ _ _ _|exact LeO.refl _|exact LeO.none _|refine LeO.ite ?_ ?_|refine LeO.bind ?_ (fun _=>?_))|exact ih0 _ _ _|exact ih1 _ _ _ _|exact LeO.none _|refine LeO.ite ?_ ?_|refine LeO.bind ?_ (fun _=>?_)
  ·intro y0 y1 y2 y3
   unfold impl_OrdRaise.l0
   repeat' first|(with_reducible first|exact ih1 _ _ _ _|exact impl_times.mono _ _ _|exact impl_told.mono _ _|exact LeO.refl _|exact LeO.none _|refine LeO.ite ?_ ?_|refine LeO.bind ?_ (fun _=>?_))|exact ih1 _ _ _ _|exact impl_times.mono _ _ _|exact impl_told.mono _ _|exact LeO.none _|refine LeO.ite ?_ ?_|refine LeO.bind ?_ (fun _=>?_)
theorem impl_OrdRaise.mono:∀ a0 a1 k,LeO (impl_OrdRaise.f k a0 a1) (impl_OrdRaise.f (k+1) a0 a1):=by
 intro a0 a1 k
 obtain⟨ih0,ih1⟩:=impl_OrdRaise.mono_l k
 unfold impl_OrdRaise.f
 repeat' first|(with_reducible first|exact ih0 _ _ _|exact ih1 _ _ _ _|exact impl_ordOf.mono _ _|exact LeO.refl _|exact LeO.none _|refine LeO.ite ?_ ?_|refine LeO.bind ?_ (fun _=>?_))|exact ih0 _ _ _|exact ih1 _ _ _ _|exact impl_ordOf.mono _ _|exact LeO.none _|refine LeO.ite ?_ ?_|refine LeO.bind ?_ (fun _=>?_)
set_option maxHeartbeats 8000000 in
set_option maxRecDepth 100000 in
theorem impl_OrdRaise.calls (k:Nat)(A0:Option Addr)(c0:Nat)(l0:List Int)(a1:Int)(r1:List Int)(r2:Bool)(w:World)(hr0:Kd.C (Kd.int .i64) w A0 l0.length l0)(hc0:l0.length≤c0)(h:impl_OrdRaise.f k l0 a1=some (r1,r2)) :
  Calls Try.prog 28 #[.slice A0 l0.length c0,.int .i64 a1] w fun e w'=>∃ v0_:Value,e=.returned (.tuple #[v0_,.bool r2])∧Kd.R (Kd.int .i64) 3 w' w.heap.size (fun _=>True) v0_ r1∧Below w.heap.size w w':=by
 have HR0:=Aside0.mk hr0
 have HC0:=Aside0.mk hc0
 clear hr0 hc0
 have HB:=Aside0.mk (Below.refl w.heap.size w)
 have H:((impl_ordOf.f k l0).bind fun bt990=>(if bt990.2=true then(if a1<0 then(impl_OrdRaise.j0 k a1 bt990.1 true) else(impl_OrdRaise.j0 k a1 bt990.1 (decide (a1>9)))) else(impl_OrdRaise.j0 k a1 bt990.1 true)))=some (r1,r2):=h
 clear h
 replace H:=Option.bind_eq_some_iff.mp H
 obtain⟨⟨t990,t991⟩,A30,H⟩:=H
 replace H:(if t991=true then(if a1<0 then(impl_OrdRaise.j0 k a1 t990 true) else(impl_OrdRaise.j0 k a1 t990 (decide (a1>9)))) else(impl_OrdRaise.j0 k a1 t990 true))=some (r1,r2):=H
 have A3:=Aside0.mk A30
 clear A30
 have HC4:=Aside0.mk H
 clear H
 go_enter Try.func28,Try.ntmps28
 go_upto_region 2 with (first|((with_reducible refine gate_callee (f:=59) rfl ?_);refine goesL_ (some 13) rfl rfl Try.func59 (by kernel_rfl) rfl #[.slice A0 l0.length c0] rfl az ?_;(with_reducible refine(impl_ordOf.calls k _ _ l0 t990 t991 _ ?side1 ?side2 A3.out).mono ?_);(case side1=>exact Kd.Cz HR0.out);(case side2=>exact HC0.out);rintro e w5 ⟨v992,rfl,ho0,hb⟩;refine⟨_,rfl,?_⟩;have HO993:=Aside0.mk (Kd.N_lower (Kd.N_mono (ok':=fun k_=>True) (Kd.R_N (Kd.R_bound ho0)) (fun k_ hk_=>trivial)) (below_size bz));replace HB:=Aside0.mk (below_step bz hb);(try clear hb);(try clear hb2);(try clear hk);(try clear hi);(try clear ho0)))
 (try simp only[Act.put,List.setIfInBounds_toArray,List.set_cons_zero,List.set_cons_succ])
 go_cut [25] (fun v25 wc=>∃ (kq:Nat) (x25_3:Bool),v25=.bool x25_3∧Aside0 (impl_OrdRaise.j0 kq a1 t990 x25_3=some (r1,r2))∧Aside0 (kq≤k)∧Aside0 (Kd.N k61 61 wc w.heap.size (fun _=>True) v992 t990)∧Aside0 (Below w.heap.size w wc))
 case first =>
  have H:=HC4.out
  clear HC4
  by_cases c6:t991=true
  ·subst c6
   have H1:(if a1<0 then(impl_OrdRaise.j0 k a1 t990 true) else(impl_OrdRaise.j0 k a1 t990 (decide (a1>9))))=some (r1,r2):=by rw[if_pos rfl] at H;exact H
   clear H
   have H:=H1
   clear H1
   by_cases c7:a1<0
   ·rw[if_pos c7] at H
    have c7b0:decide (a1<0)=true:=decide_eq_true c7
    clear c7
    (first|rw[c7b0]|(simp only[i64_w,i32_w];rw[c7b0])|skip)
    have H':=Aside0.mk H
    clear H
    go_wp2
    go_meet
    case rel=>exact⟨_,(true),(by first|rfl|(simp;done)|(simp[*];done)),H',⟨by first|omega|exact Nat.le_refl _⟩,⟨by(with_reducible repeat (first|apply Kd.N_alloc|apply Kd.N_drewN|apply Kd.N_drew));exact HO993.out⟩,⟨bz⟩⟩
   ·rw[if_neg c7] at H
    have c7b0:decide (a1<0)=false:=decide_eq_false c7
    clear c7
    (first|rw[c7b0]|(simp only[i64_w,i32_w];rw[c7b0])|skip)
    have H':=Aside0.mk H
    clear H
    go_wp2
    go_meet
    case rel=>exact⟨_,(decide (a1>9)),(by first|rfl|(simp;done)|(simp[*];done)),H',⟨by first|omega|exact Nat.le_refl _⟩,⟨by(with_reducible repeat (first|apply Kd.N_alloc|apply Kd.N_drewN|apply Kd.N_drew));exact HO993.out⟩,⟨bz⟩⟩
  ·replace c6:=Bool.eq_false_iff.mpr c6
   subst c6
   have H1:(impl_OrdRaise.j0 k a1 t990 true)=some (r1,r2):=by rw[if_neg (show ¬ (false=true) by decide)] at H;exact H
   clear H
   have H:=H1
   clear H1
   have H':=Aside0.mk H
   clear H
   go_wp2
   go_meet
   case rel=>exact⟨_,(true),(by first|rfl|(simp;done)|(simp[*];done)),H',⟨by first|omega|exact Nat.le_refl _⟩,⟨by(with_reducible repeat (first|apply Kd.N_alloc|apply Kd.N_drewN|apply Kd.N_drew));exact HO993.out⟩,⟨bz⟩⟩
 case rest =>
  clear HC4
  try clear c2
  try clear p2
  try clear c5
  try clear c6
  try clear c7
  try clear c7b0
  obtain⟨kq,x25_3,rfl,HA,HJ3,HO_6,HB⟩:=hcut
  cases kq with
  | zero=>exact absurd HA.out (by simp[impl_OrdRaise.j0])
  | succ kj3 =>
   have H:=HA.out
   clear HA
   simp only[impl_OrdRaise.j0] at H
   by_cases c8:x25_3=true
   ·subst c8
    have H1:(some (([]:List Int),false))=some (r1,r2):=by rw[if_pos rfl] at H;exact H
    clear H
    have H:=H1
    clear H1
    simp only[Option.some.injEq,Prod.mk.injEq] at H
    obtain⟨rfl,rfl⟩:=H
    go_wp2
    go_ret2
    exact⟨_,by first|rfl|(simp[errW_none,errW_some]<;>rfl)|(simp[*,errW_none,errW_some]<;>rfl),by first|exact Kd.R_nil _ _ _ _ _|exact Kd.N_nil _ _ _ _ _|exact Kd.V_nil _ _ _ _ _|exact Kd.Q_nil _ _ _ _ _|exact Kd.S_nil _ _ _ _ _,bz⟩
   ·replace c8:=Bool.eq_false_iff.mpr c8
    subst c8
    have H1:((impl_number.f 1).bind fun t994=>(impl_OrdRaise.l0 kj3 t990 t994 a1 0))=some (r1,r2):=by rw[if_neg (show ¬ (false=true) by decide)] at H;exact H
    clear H
    have H:=H1
    clear H1
    replace H:=Option.bind_eq_some_iff.mp H
    obtain⟨t994,A90,H⟩:=H
    replace H:(impl_OrdRaise.l0 kj3 t990 t994 a1 0)=some (r1,r2):=H
    have A9:=Aside0.mk A90
    clear A90
    have H':=Aside0.mk H
    clear H
    go_wp2_with (first|((with_reducible refine gate_callee (f:=60) rfl ?_);refine goesL_ (some 26) rfl rfl Try.func60 (by kernel_rfl) rfl #[.int .i64 1] rfl az ?_;(with_reducible refine(impl_number.calls 1 t994 _ A9.out).mono ?_);rintro e w10 ⟨v995,rfl,ho0,hb⟩;refine⟨_,rfl,?_⟩;have HO996:=Aside0.mk (Kd.N_lower (Kd.N_mono (ok':=fun k_=>some k_≠(v992:Value).ownBlock) (Kd.R_N (Kd.R_bound ho0)) (fun k_ hk_=>(Kd.fresh' (Kd.N_lt (Kd.Nz HO_6.out)) k_ hk_.2.1))) (below_size bz));replace HO_6:=Aside0.mk (Kd.N_elder' (Kd.Nz HO_6.out) (by first|exact Kd.N_base ho0|exact Kd.R_base ho0) hb);replace HB:=Aside0.mk (below_step bz hb);(try clear hb);(try clear hb2);(try clear hk);(try clear hi);(try clear ho0)))
    go_loopg [8,28] kj3 (fun kq v8 v28 w'=>∃ (x8_2:List (S61)) (x28_2:Int),v28=.int .i64 x28_2∧Aside0 (impl_OrdRaise.l0 kq t990 x8_2 a1 x28_2=some (r1,r2))∧Aside0 (kq≤kj3)∧Aside0 (Kd.N k61 61 w' w.heap.size (fun k_=>some k_≠(v8:Value).ownBlock) v992 t990)∧Aside0 (Kd.N k61 61 w' w.heap.size (fun _=>True) v8 x8_2)∧Aside0 (Below w.heap.size w w'))
    case atStart=>exact⟨(t994),(0),(by first|rfl|(simp;done)|(simp[*];done)),H',⟨Nat.le_refl _⟩,⟨Kd.Nz <| Kd.N_mono HO_6.out (fun _ hk=>hk.2)⟩,⟨Kd.Nz <| Kd.N_mono HO996.out (fun _ hk=>trivial)⟩,⟨bz⟩⟩
    case round =>
     clear H'
     try clear c2
     try clear p2
     try clear c5
     try clear c6
     try clear c7
     try clear c7b0
     try clear c8
     try clear p2
     obtain⟨x8_2,x28_2,rfl,HA,HK2,HO_6,HO_8,HB⟩:=hrel
     cases gk with
     | zero=>exact absurd HA.out (by simp[impl_OrdRaise.l0])
     | succ k2 =>
      have H:=HA.out
      clear HA
      simp only[impl_OrdRaise.l0] at H
      by_cases c11:x28_2<a1
      ·rw[if_pos c11] at H
       have c11b0:decide (x28_2<a1)=true:=decide_eq_true c11
       clear c11
       replace H:=Option.bind_eq_some_iff.mp H
       obtain⟨t1001,A120,H⟩:=H
       replace H:((impl_told.f k2 t1001).bind fun bt1004=>(if bt1004.2=true then(impl_OrdRaise.l0 k2 t990 t1001 a1 (wrap64 (x28_2+1))) else(some (([]:List Int),false))))=some (r1,r2):=H
       have A12:=Aside0.mk A120
       clear A120
       replace H:=Option.bind_eq_some_iff.mp H
       obtain⟨⟨t1004,t1005⟩,A130,H⟩:=H
       replace H:(if t1005=true then(impl_OrdRaise.l0 k2 t990 t1001 a1 (wrap64 (x28_2+1))) else(some (([]:List Int),false)))=some (r1,r2):=H
       have A13:=Aside0.mk A130
       clear A130
       by_cases c14:t1005=true
       ·subst c14
        have H1:(impl_OrdRaise.l0 k2 t990 t1001 a1 (wrap64 (x28_2+1)))=some (r1,r2):=by rw[if_pos rfl] at H;exact H
        clear H
        have H:=H1
        clear H1
        have H':=Aside0.mk H
        clear H
        obtain⟨Ao15,co15,eo15⟩:=Kd.N_slice HO_8.out
        subst eo15
        obtain⟨Ao16,co16,eo16⟩:=Kd.N_slice HO_6.out
        subst eo16
        go_wp2_with (first|((with_reducible refine gate_callee (f:=57) rfl ?_);refine goesL_ (some 32) rfl rfl Try.func57 (by kernel_rfl) rfl #[.slice Ao15 x8_2.length co15,.slice Ao16 t990.length co16] rfl az ?_;(with_reducible refine(impl_times.calls k2 (fun k_=>True) _ _ x8_2 (fun k_=>some k_≠(.slice Ao15 x8_2.length co15:Value).ownBlock) _ _ t990 t1001 _ ?side1 ?side2 A12.out).mono ?_);(case side1=>exact Kd.N_V (HO_8.out));(case side2=>exact Kd.N_V (HO_6.out));rintro e w17 ⟨v1002,rfl,ho0,hb⟩;refine⟨_,rfl,?_⟩;replace HO_6:=Aside0.mk (Kd.N_elder' (Kd.Nz HO_6.out) (Kd.N_base ho0) hb);replace HO_8:=Aside0.mk (Kd.N_elder' (Kd.Nz HO_8.out) (Kd.N_base ho0) hb);have HO1003:=Aside0.mk (Kd.N_lower (Kd.N_mono (ok':=fun k_=>True) ho0 (fun k_ hk_=>trivial)) (below_size bz));replace HB:=Aside0.mk (below_step bz hb);(try clear hb);(try clear hb2);(try clear hk);(try clear hi);(try clear ho0);obtain⟨Ao18,co18,eo18⟩:=Kd.N_slice HO1003.out;subst eo18)|((with_reducible refine gate_callee (f:=46) rfl ?_);refine goesL_ (some 35) rfl rfl Try.func46 (by kernel_rfl) rfl #[.slice Ao18 t1001.length co18] rfl az ?_;(with_reducible refine(impl_told.calls k2 _ _ t1001 t1004 true _ ?side1 ?side2 A13.out).mono ?_);(case side1=>exact Kd.Cz (Kd.N_reads' HO1003.out).2.2);(case side2=>exact(Kd.N_reads' HO1003.out).2.1);rintro e w19 ⟨v1006,rfl,ho0,hb⟩;refine⟨_,rfl,?_⟩;replace HO_6:=Aside0.mk (Kd.N_elder' (Kd.Nz HO_6.out) (Kd.R_base ho0) hb);replace HO_8:=Aside0.mk (Kd.N_elder' (Kd.Nz HO_8.out) (Kd.R_base ho0) hb);replace HO1003:=Aside0.mk (Kd.N_elder' (Kd.Nz HO1003.out) (Kd.R_base ho0) hb);have HO1007:=Aside0.mk (Kd.R_lower ho0 (below_size bz));replace HB:=Aside0.mk (below_step bz hb);(try clear hb);(try clear hb2);(try clear hk);(try clear hi);(try clear ho0)))
        go_roundg k2
        case measure=>have:=HJ3.out;have:=HK2.out;omega
        case rel=>exact⟨(t1001),(wrap64 (x28_2+1)),(by first|rfl|(simp;done)|(simp[*];done)),H',⟨by have:=HJ3.out;have:=HK2.out;omega⟩,⟨Kd.Nz <| Kd.N_mono HO_6.out (fun _ hk=>hk.1.2)⟩,⟨Kd.Nz <| Kd.N_mono HO1003.out (fun _ hk=>trivial)⟩,⟨bz⟩⟩
       ·replace c14:=Bool.eq_false_iff.mpr c14
        subst c14
        have H1:(some (([]:List Int),false))=some (r1,r2):=by rw[if_neg (show ¬ (false=true) by decide)] at H;exact H
        clear H
        have H:=H1
        clear H1
        simp only[Option.some.injEq,Prod.mk.injEq] at H
        obtain⟨rfl,rfl⟩:=H
        obtain⟨Ao20,co20,eo20⟩:=Kd.N_slice HO_8.out
        subst eo20
        obtain⟨Ao21,co21,eo21⟩:=Kd.N_slice HO_6.out
        subst eo21
        go_wp2_with (first|((with_reducible refine gate_callee (f:=57) rfl ?_);refine goesL_ (some 32) rfl rfl Try.func57 (by kernel_rfl) rfl #[.slice Ao20 x8_2.length co20,.slice Ao21 t990.length co21] rfl az ?_;(with_reducible refine(impl_times.calls k2 (fun k_=>True) _ _ x8_2 (fun k_=>some k_≠(.slice Ao20 x8_2.length co20:Value).ownBlock) _ _ t990 t1001 _ ?side1 ?side2 A12.out).mono ?_);(case side1=>exact Kd.N_V (HO_8.out));(case side2=>exact Kd.N_V (HO_6.out));rintro e w22 ⟨v1002,rfl,ho0,hb⟩;refine⟨_,rfl,?_⟩;replace HO_6:=Aside0.mk (Kd.N_elder' (Kd.Nz HO_6.out) (Kd.N_base ho0) hb);replace HO_8:=Aside0.mk (Kd.N_elder' (Kd.Nz HO_8.out) (Kd.N_base ho0) hb);have HO1003:=Aside0.mk (Kd.N_lower (Kd.N_mono (ok':=fun k_=>True) ho0 (fun k_ hk_=>trivial)) (below_size bz));replace HB:=Aside0.mk (below_step bz hb);(try clear hb);(try clear hb2);(try clear hk);(try clear hi);(try clear ho0);obtain⟨Ao23,co23,eo23⟩:=Kd.N_slice HO1003.out;subst eo23)|((with_reducible refine gate_callee (f:=46) rfl ?_);refine goesL_ (some 35) rfl rfl Try.func46 (by kernel_rfl) rfl #[.slice Ao23 t1001.length co23] rfl az ?_;(with_reducible refine(impl_told.calls k2 _ _ t1001 t1004 false _ ?side1 ?side2 A13.out).mono ?_);(case side1=>exact Kd.Cz (Kd.N_reads' HO1003.out).2.2);(case side2=>exact(Kd.N_reads' HO1003.out).2.1);rintro e w24 ⟨v1006,rfl,ho0,hb⟩;refine⟨_,rfl,?_⟩;replace HO_6:=Aside0.mk (Kd.N_elder' (Kd.Nz HO_6.out) (Kd.R_base ho0) hb);replace HO_8:=Aside0.mk (Kd.N_elder' (Kd.Nz HO_8.out) (Kd.R_base ho0) hb);replace HO1003:=Aside0.mk (Kd.N_elder' (Kd.Nz HO1003.out) (Kd.R_base ho0) hb);have HO1007:=Aside0.mk (Kd.R_lower ho0 (below_size bz));replace HB:=Aside0.mk (below_step bz hb);(try clear hb);(try clear hb2);(try clear hk);(try clear hi);(try clear ho0)))
        go_ret2
        exact⟨_,by first|rfl|(simp[errW_none,errW_some]<;>rfl)|(simp[*,errW_none,errW_some]<;>rfl),by first|exact Kd.R_nil _ _ _ _ _|exact Kd.N_nil _ _ _ _ _|exact Kd.V_nil _ _ _ _ _|exact Kd.Q_nil _ _ _ _ _|exact Kd.S_nil _ _ _ _ _,bz⟩
      ·rw[if_neg c11] at H
       have c11b0:decide (x28_2<a1)=false:=decide_eq_false c11
       clear c11
       replace H:=Option.bind_eq_some_iff.mp H
       obtain⟨⟨t997,t998⟩,A250,H⟩:=H
       replace H:(some (t997,t998))=some (r1,r2):=H
       have A25:=Aside0.mk A250
       clear A250
       simp only[Option.some.injEq,Prod.mk.injEq] at H
       obtain⟨rfl,rfl⟩:=H
       obtain⟨Ao26,co26,eo26⟩:=Kd.N_slice HO_8.out
       subst eo26
       go_wp2_with (first|((with_reducible refine gate_callee (f:=46) rfl ?_);refine goesL_ (some 42) rfl rfl Try.func46 (by kernel_rfl) rfl #[.slice Ao26 x8_2.length co26] rfl az ?_;(with_reducible refine(impl_told.calls k2 _ _ x8_2 t997 t998 _ ?side1 ?side2 A25.out).mono ?_);(case side1=>exact Kd.Cz (Kd.N_reads' HO_8.out).2.2);(case side2=>exact(Kd.N_reads' HO_8.out).2.1);rintro e w27 ⟨v999,rfl,ho0,hb⟩;refine⟨_,rfl,?_⟩;replace HO_6:=Aside0.mk (Kd.N_elder' (Kd.Nz HO_6.out) (Kd.R_base ho0) hb);replace HO_8:=Aside0.mk (Kd.N_elder' (Kd.Nz HO_8.out) (Kd.R_base ho0) hb);have HO1000:=Aside0.mk (Kd.R_lower ho0 (below_size bz));replace HB:=Aside0.mk (below_step bz hb);(try clear hb);(try clear hb2);(try clear hk);(try clear hi);(try clear ho0)))
       go_ret2
       exact⟨_,by first|rfl|(simp[errW_none,errW_some]<;>rfl)|(simp[*,errW_none,errW_some]<;>rfl),by(with_reducible repeat (first|apply Kd.R_alloc|apply Kd.R_drewN|apply Kd.R_drew));exact HO1000.out,bz⟩
end Go.Proofs.Ytfblcanijhnhmaa.P