/- One Go function comes to what its Lean function tells. -/
import Derived.Test.YtpgkpahhohfmhaaP0
import Derived.Test.YtpgkpahhohfmhaaPimplkind
import Derived.Test.YtpgkpahhohfmhaaPimplordOf
import Derived.Test.YtpgkpahhohfmhaaPimplstep
import Derived.Test.YtpgkpahhohfmhaaPimpltold
namespace Go.Proofs.Ytpgkpahhohfmhaa.P
open Go.RowKit YtpgkpahhohfmhaaW.PrintWords YtpgkpahhohfmhaaW.PrintLast YtpgkpahhohfmhaaW.PrintMore
set_option linter.unusedVariables false
set_option linter.unusedSimpArgs false
/-! ### impl_StepsDown: function 41 -/
mutual
def impl_StepsDown.j0:Nat→Int→List (S69)→Bool→Option (Int × Int)
 | 0,_,_,_=>none
 | k+1,x1,x6,x26=>if x26=true then(some ((-1),(-1))) else(impl_StepsDown.l0 k x1 x6 0 0)
def impl_StepsDown.l0:Nat→Int→List (S69)→Int→Int→Option (Int × Int)
 | 0,_,_,_,_=>none
 | k+1,x1,x6,x8,x9=>if(x6.length:Int)>0 then((impl_kind.f x6).bind fun t946=>(if t946=1 then(impl_StepsDown.j2 k x1 x6 x8 (wrap64 (x9+1))) else(impl_StepsDown.j2 k x1 x6 x8 x9))) else(some (x8,x9))
def impl_StepsDown.j2:Nat→Int→List (S69)→Int→Int→Option (Int × Int)
 | 0,_,_,_,_=>none
 | k+1,x1,x6,x8,x9=>(impl_step.f k x6 x1).bind fun t947=>((impl_told.f k t947).bind fun bt950=>(if bt950.2=true then(if(wrap64 (x8+1))>3000 then(some ((-1),(-1))) else(impl_StepsDown.l0 k x1 t947 (wrap64 (x8+1)) x9)) else(some ((-1),(-1)))))
end
def impl_StepsDown.f (k:Nat)(l0:List Int)(a1:Int):Option (Int × Int):=(impl_ordOf.f k l0).bind fun bt942=>(if bt942.2=true then(if a1<0 then(impl_StepsDown.j0 k a1 bt942.1 true) else(impl_StepsDown.j0 k a1 bt942.1 (decide (a1>99)))) else(impl_StepsDown.j0 k a1 bt942.1 true))
theorem impl_StepsDown.mono_l:∀ k,(∀ y0 y1 y2,LeO (impl_StepsDown.j0 k y0 y1 y2) (impl_StepsDown.j0 (k+1) y0 y1 y2))∧(∀ y0 y1 y2 y3,LeO (impl_StepsDown.l0 k y0 y1 y2 y3) (impl_StepsDown.l0 (k+1) y0 y1 y2 y3))∧(∀ y0 y1 y2 y3,LeO (impl_StepsDown.j2 k y0 y1 y2 y3) (impl_StepsDown.j2 (k+1) y0 y1 y2 y3))
 | 0=>⟨fun _ _ _ r h=>by simp[impl_StepsDown.j0] at h,fun _ _ _ _ r h=>by simp[impl_StepsDown.l0] at h,fun _ _ _ _ r h=>by simp[impl_StepsDown.j2] at h⟩
 | k+1=>by
  obtain⟨ih0,ih1,ih2⟩:=impl_StepsDown.mono_l k
  refine⟨?_,?_,?_⟩
  ·intro y0 y1 y2
   unfold impl_StepsDown.j0
   repeat' first|(with_reducible first|exact ih0 _ _ _|exact ih1 _ _ _ _|exact LeO.refl _|exact LeO.none _|refine LeO.ite ?_ ?_|refine LeO.bind ?_ (fun _=>?_))|exact ih0 _ _ _|exact ih1 _ _ _ _|exact LeO.none _|refine LeO.ite ?_ ?_|refine LeO.bind ?_ (fun _=>?_)
  ·intro y0 y1 y2 y3
   unfold impl_StepsDown.l0
   repeat' first|(with_reducible first|exact ih1 _ _ _ _|exact ih2 _ _ _ _|exact LeO.refl _|exact LeO.none _|refine LeO.ite ?_ ?_|refine LeO.bind ?_ (fun _=>?_))|exact ih1 _ _ _ _|exact ih2 _ _ _ _|exact LeO.none _|refine LeO.ite ?_ ?_|refine LeO.bind ?_ (fun _=>?_)
  ·intro y0 y1 y2 y3
   unfold impl_StepsDown.j2
   repeat' first|(with_reducible first|exact ih1 _ _ _ _|exact ih2 _ _ _ _|exact impl_step.mono _ _ _|exact impl_told.mono _ _|exact LeO.refl _|exact LeO.none _|refine LeO.ite ?_ ?_|refine LeO.bind ?_ (fun _=>?_))|exact ih1 _ _ _ _|exact ih2 _ _ _ _|exact impl_step.mono _ _ _|exact impl_told.mono _ _|exact LeO.none _|refine LeO.ite ?_ ?_|refine LeO.bind ?_ (fun _=>?_)
theorem impl_StepsDown.mono:∀ a0 a1 k,LeO (impl_StepsDown.f k a0 a1) (impl_StepsDown.f (k+1) a0 a1):=by
 intro a0 a1 k
 obtain⟨ih0,ih1,ih2⟩:=impl_StepsDown.mono_l k
 unfold impl_StepsDown.f
 repeat' first|(with_reducible first|exact ih0 _ _ _|exact ih1 _ _ _ _|exact ih2 _ _ _ _|exact impl_ordOf.mono _ _|exact LeO.refl _|exact LeO.none _|refine LeO.ite ?_ ?_|refine LeO.bind ?_ (fun _=>?_))|exact ih0 _ _ _|exact ih1 _ _ _ _|exact ih2 _ _ _ _|exact impl_ordOf.mono _ _|exact LeO.none _|refine LeO.ite ?_ ?_|refine LeO.bind ?_ (fun _=>?_)
set_option maxHeartbeats 8000000 in
set_option maxRecDepth 100000 in
theorem impl_StepsDown.calls (k:Nat)(A0:Option Addr)(c0:Nat)(l0:List Int)(a1:Int)(r1:Int)(r2:Int)(w:World)(hr0:Kd.C (Kd.int .i64) w A0 l0.length l0)(hc0:l0.length≤c0)(h:impl_StepsDown.f k l0 a1=some (r1,r2)) :
  Calls Try.prog 41 #[.slice A0 l0.length c0,.int .i64 a1] w fun e w'=>e=.returned (.tuple #[.int .i64 r1,.int .i64 r2])∧Below w.heap.size w w':=by
 have HR0:=Aside0.mk hr0
 have HC0:=Aside0.mk hc0
 clear hr0 hc0
 have HB:=Aside0.mk (Below.refl w.heap.size w)
 have H:((impl_ordOf.f k l0).bind fun bt942=>(if bt942.2=true then(if a1<0 then(impl_StepsDown.j0 k a1 bt942.1 true) else(impl_StepsDown.j0 k a1 bt942.1 (decide (a1>99)))) else(impl_StepsDown.j0 k a1 bt942.1 true)))=some (r1,r2):=h
 clear h
 replace H:=Option.bind_eq_some_iff.mp H
 obtain⟨⟨t942,t943⟩,A30,H⟩:=H
 replace H:(if t943=true then(if a1<0 then(impl_StepsDown.j0 k a1 t942 true) else(impl_StepsDown.j0 k a1 t942 (decide (a1>99)))) else(impl_StepsDown.j0 k a1 t942 true))=some (r1,r2):=H
 have A3:=Aside0.mk A30
 clear A30
 have HC4:=Aside0.mk H
 clear H
 go_enter Try.func41,Try.ntmps41
 go_upto_region 2 with (first|((with_reducible refine gate_callee (f:=54) rfl ?_);refine goesL_ (some 14) rfl rfl Try.func54 (by kernel_rfl) rfl #[.slice A0 l0.length c0] rfl az ?_;(with_reducible refine(impl_ordOf.calls k _ _ l0 t942 t943 _ ?side1 ?side2 A3.out).mono ?_);(case side1=>exact Kd.Cz HR0.out);(case side2=>exact HC0.out);rintro e w5 ⟨v944,rfl,ho0,hb⟩;refine⟨_,rfl,?_⟩;have HO945:=Aside0.mk (Kd.N_lower (Kd.N_mono (ok':=fun k_=>True) (Kd.R_N (Kd.R_bound ho0)) (fun k_ hk_=>trivial)) (below_size bz));replace HB:=Aside0.mk (below_step bz hb);(try clear hb);(try clear hb2);(try clear hk);(try clear hi);(try clear ho0)))
 (try simp only[Act.put,List.setIfInBounds_toArray,List.set_cons_zero,List.set_cons_succ])
 go_cut [26] (fun v26 wc=>∃ (kq:Nat) (x26_3:Bool),v26=.bool x26_3∧Aside0 (impl_StepsDown.j0 kq a1 t942 x26_3=some (r1,r2))∧Aside0 (kq≤k)∧Aside0 (Kd.N k69 69 wc w.heap.size (fun _=>True) v944 t942)∧Aside0 (Below w.heap.size w wc))
 case first =>
  have H:=HC4.out
  clear HC4
  by_cases c6:t943=true
  ·subst c6
   have H1:(if a1<0 then(impl_StepsDown.j0 k a1 t942 true) else(impl_StepsDown.j0 k a1 t942 (decide (a1>99))))=some (r1,r2):=by rw[if_pos rfl] at H;exact H
   clear H
   have H:=H1
   clear H1
   by_cases c7:a1<0
   ·rw[if_pos c7] at H
    have c7b0:decide (a1<0)=true:=decide_eq_true c7
    clear c7
    (first|rw[c7b0]|(simp only[i64_w,i32_w];rw[c7b0])|skip)
    have H':=Aside0.mk H
    clear H
    go_wp2
    go_meet
    case rel=>exact⟨_,(true),(by first|rfl|(simp;done)|(simp[*];done)),H',⟨by first|omega|exact Nat.le_refl _⟩,⟨by(with_reducible repeat (first|apply Kd.N_alloc|apply Kd.N_drewN|apply Kd.N_drew));exact HO945.out⟩,⟨bz⟩⟩
   ·rw[if_neg c7] at H
    have c7b0:decide (a1<0)=false:=decide_eq_false c7
    clear c7
    (first|rw[c7b0]|(simp only[i64_w,i32_w];rw[c7b0])|skip)
    have H':=Aside0.mk H
    clear H
    go_wp2
    go_meet
    case rel=>exact⟨_,(decide (a1>99)),(by first|rfl|(simp;done)|(simp[*];done)),H',⟨by first|omega|exact Nat.le_refl _⟩,⟨by(with_reducible repeat (first|apply Kd.N_alloc|apply Kd.N_drewN|apply Kd.N_drew));exact HO945.out⟩,⟨bz⟩⟩
  ·replace c6:=Bool.eq_false_iff.mpr c6
   subst c6
   have H1:(impl_StepsDown.j0 k a1 t942 true)=some (r1,r2):=by rw[if_neg (show ¬ (false=true) by decide)] at H;exact H
   clear H
   have H:=H1
   clear H1
   have H':=Aside0.mk H
   clear H
   go_wp2
   go_meet
   case rel=>exact⟨_,(true),(by first|rfl|(simp;done)|(simp[*];done)),H',⟨by first|omega|exact Nat.le_refl _⟩,⟨by(with_reducible repeat (first|apply Kd.N_alloc|apply Kd.N_drewN|apply Kd.N_drew));exact HO945.out⟩,⟨bz⟩⟩
 case rest =>
  clear HC4
  try clear p2
  try clear c4
  try clear c5
  try clear c6
  try clear c7
  try clear c7b0
  obtain⟨kq,x26_3,rfl,HA,HJ3,HO_6,HB⟩:=hcut
  cases kq with
  | zero=>exact absurd HA.out (by simp[impl_StepsDown.j0])
  | succ kj3 =>
   have H:=HA.out
   clear HA
   simp only[impl_StepsDown.j0] at H
   by_cases c8:x26_3=true
   ·subst c8
    have H1:(some ((-1),(-1)))=some (r1,r2):=by rw[if_pos rfl] at H;exact H
    clear H
    have H:=H1
    clear H1
    simp only[Option.some.injEq,Prod.mk.injEq] at H
    obtain⟨rfl,rfl⟩:=H
    go_wp2
    go_ret2
    exact⟨by first|rfl|(simp[errW_none,errW_some]<;>rfl)|(simp[*,errW_none,errW_some]<;>rfl),bz⟩
   ·replace c8:=Bool.eq_false_iff.mpr c8
    subst c8
    have H1:(impl_StepsDown.l0 kj3 a1 t942 0 0)=some (r1,r2):=by rw[if_neg (show ¬ (false=true) by decide)] at H;exact H
    clear H
    have H:=H1
    clear H1
    have H':=Aside0.mk H
    clear H
    go_wp2
    go_loopg [6,8,9] kj3 (fun kq v6 v8 v9 w'=>∃ (x6_2:List (S69)) (x8_2:Int) (x9_2:Int),v8=.int .i64 x8_2∧v9=.int .i64 x9_2∧Aside0 (impl_StepsDown.l0 kq a1 x6_2 x8_2 x9_2=some (r1,r2))∧Aside0 (kq≤kj3)∧Aside0 (Kd.N k69 69 w' w.heap.size (fun _=>True) v6 x6_2)∧Aside0 (Below w.heap.size w w'))
    case atStart=>exact⟨(t942),(0),(0),(by first|rfl|(simp;done)|(simp[*];done)),(by first|rfl|(simp;done)|(simp[*];done)),H',⟨Nat.le_refl _⟩,⟨by(with_reducible repeat (first|apply Kd.N_alloc|apply Kd.N_drewN|apply Kd.N_drew));exact HO_6.out⟩,⟨bz⟩⟩
    case round =>
     clear H'
     try clear p2
     try clear c4
     try clear c5
     try clear c6
     try clear c7
     try clear c7b0
     try clear c8
     try clear p2
     obtain⟨x6_2,x8_2,x9_2,rfl,rfl,HA,HK2,HO_6,HB⟩:=hrel
     cases gk with
     | zero=>exact absurd HA.out (by simp[impl_StepsDown.l0])
     | succ k2 =>
      have H:=HA.out
      clear HA
      simp only[impl_StepsDown.l0] at H
      by_cases c9:(x6_2.length:Int)>0
      ·rw[if_pos c9] at H
       have c9b0:decide (0<(x6_2.length:Int))=true:=decide_eq_true c9
       have c9b1:decide (0<x6_2.length)=true:=decide_eq_true (by omega)
       clear c9
       replace H:=Option.bind_eq_some_iff.mp H
       obtain⟨t946,A100,H⟩:=H
       replace H:(if t946=1 then(impl_StepsDown.j2 k2 a1 x6_2 x8_2 (wrap64 (x9_2+1))) else(impl_StepsDown.j2 k2 a1 x6_2 x8_2 x9_2))=some (r1,r2):=H
       have A10:=Aside0.mk A100
       clear A100
       have HC11:=Aside0.mk H
       clear H
       obtain⟨Ao12,co12,eo12⟩:=Kd.N_slice HO_6.out
       subst eo12
       go_upto_if 32 with (first|((with_reducible refine gate_callee (f:=67) rfl ?_);refine goesL_ (some 31) rfl rfl Try.func67 (by kernel_rfl) rfl #[.slice Ao12 x6_2.length co12] rfl az ?_;(with_reducible refine(impl_kind.calls _ _ x6_2 t946 _ ?side1 ?side2 A10.out).mono ?_);(case side1=>exact Kd.Cz (Kd.N_reads' HO_6.out).2.2);(case side2=>exact(Kd.N_reads' HO_6.out).2.1);rintro e w' ⟨rfl,⟨nd,rfl⟩⟩;refine⟨_,rfl,?_⟩))
       (try simp only[Act.put,List.setIfInBounds_toArray,List.set_cons_zero,List.set_cons_succ])
       go_cut [9] (fun v9 wc=>∃ (kq:Nat) (x9_10:Int),v9=.int .i64 x9_10∧Aside0 (impl_StepsDown.j2 kq a1 x6_2 x8_2 x9_10=some (r1,r2))∧Aside0 (kq≤k2)∧Aside0 (Kd.N k69 69 wc w.heap.size (fun _=>True) (.slice Ao12 x6_2.length co12) x6_2)∧Aside0 (Below w.heap.size w wc))
       case first =>
        have H:=HC11.out
        clear HC11
        by_cases c13:t946=1
        ·rw[if_pos c13] at H
         have c13b0:(t946 == 1)=true:=beq_iff_eq.mpr c13
         have c13b1:(t946 != 1)=false:=bne_eq_false_iff_eq.mpr c13
         clear c13
         (first|rw[c13b0]|(simp only[i64_w,i32_w];rw[c13b0])|skip)
         have H':=Aside0.mk H
         clear H
         go_wp2
         go_meet
         case rel=>exact⟨_,(wrap64 (x9_2+1)),(by first|rfl|(simp;done)|(simp[*];done)),H',⟨by have:=HJ3.out;have:=HK2.out;first|omega|exact Nat.le_refl _⟩,⟨by(with_reducible repeat (first|apply Kd.N_alloc|apply Kd.N_drewN|apply Kd.N_drew));exact HO_6.out⟩,⟨bz⟩⟩
        ·rw[if_neg c13] at H
         have c13b0:(t946 == 1)=false:=beq_eq_false_iff_ne.mpr c13
         have c13b1:(t946 != 1)=true:=bne_iff_ne.mpr c13
         (first|rw[c13b0]|(simp only[i64_w,i32_w];rw[c13b0])|skip)
         have H':=Aside0.mk H
         clear H
         go_wp2
         go_meet
         case rel=>exact⟨_,(x9_2),(by first|rfl|(simp;done)|(simp[*];done)),H',⟨by have:=HJ3.out;have:=HK2.out;first|omega|exact Nat.le_refl _⟩,⟨by(with_reducible repeat (first|apply Kd.N_alloc|apply Kd.N_drewN|apply Kd.N_drew));exact HO_6.out⟩,⟨bz⟩⟩
       case rest =>
        clear HC11
        try clear c1
        try clear p2
        try clear c4
        try clear c5
        try clear c6
        try clear p6
        try clear c7
        try clear c7b0
        try clear c8
        try clear c9
        try clear c9b0
        try clear c9b1
        try clear c13
        try clear c13b0
        try clear c13b1
        try clear p2
        obtain⟨kq,x9_10,rfl,HA,HJ10,HO_6,HB⟩:=hcut
        cases kq with
        | zero=>exact absurd HA.out (by simp[impl_StepsDown.j2])
        | succ kj10 =>
         have H:=HA.out
         clear HA
         simp only[impl_StepsDown.j2] at H
         replace H:=Option.bind_eq_some_iff.mp H
         obtain⟨t947,A140,H⟩:=H
         replace H:((impl_told.f kj10 t947).bind fun bt950=>(if bt950.2=true then(if(wrap64 (x8_2+1))>3000 then(some ((-1),(-1))) else(impl_StepsDown.l0 kj10 a1 t947 (wrap64 (x8_2+1)) x9_10)) else(some ((-1),(-1)))))=some (r1,r2):=H
         have A14:=Aside0.mk A140
         clear A140
         replace H:=Option.bind_eq_some_iff.mp H
         obtain⟨⟨t950,t951⟩,A150,H⟩:=H
         replace H:(if t951=true then(if(wrap64 (x8_2+1))>3000 then(some ((-1),(-1))) else(impl_StepsDown.l0 kj10 a1 t947 (wrap64 (x8_2+1)) x9_10)) else(some ((-1),(-1))))=some (r1,r2):=H
         have A15:=Aside0.mk A150
         clear A150
         by_cases c16:t951=true
         ·subst c16
          have H1:(if(wrap64 (x8_2+1))>3000 then(some ((-1),(-1))) else(impl_StepsDown.l0 kj10 a1 t947 (wrap64 (x8_2+1)) x9_10))=some (r1,r2):=by rw[if_pos rfl] at H;exact H
          clear H
          have H:=H1
          clear H1
          by_cases c17:(wrap64 (x8_2+1))>3000
          ·rw[if_pos c17] at H
           have c17b0:decide (3000<(wrap64 (x8_2+1)))=true:=decide_eq_true c17
           clear c17
           simp only[Option.some.injEq,Prod.mk.injEq] at H
           obtain⟨rfl,rfl⟩:=H
           go_wp2_with (first|((with_reducible refine gate_callee (f:=66) rfl ?_);refine goesL_ (some 37) rfl rfl Try.func66 (by kernel_rfl) rfl #[.slice Ao12 x6_2.length co12,.int .i64 a1] rfl az ?_;(with_reducible refine(impl_step.calls kj10 (fun k_=>True) _ _ x6_2 a1 t947 _ ?side1 A14.out).mono ?_);(case side1=>exact Kd.N_V (HO_6.out));rintro e w18 ⟨v948,rfl,ho0,hb⟩;refine⟨_,rfl,?_⟩;replace HO_6:=Aside0.mk (Kd.N_elder' (Kd.Nz HO_6.out) (Kd.N_base ho0) hb);have HO949:=Aside0.mk (Kd.N_lower (Kd.N_mono (ok':=fun k_=>True) ho0 (fun k_ hk_=>trivial)) (below_size bz));replace HB:=Aside0.mk (below_step bz hb);(try clear hb);(try clear hb2);(try clear hk);(try clear hi);(try clear ho0);obtain⟨Ao19,co19,eo19⟩:=Kd.N_slice HO949.out;subst eo19)|((with_reducible refine gate_callee (f:=49) rfl ?_);refine goesL_ (some 42) rfl rfl Try.func49 (by kernel_rfl) rfl #[.slice Ao19 t947.length co19] rfl az ?_;(with_reducible refine(impl_told.calls kj10 _ _ t947 t950 true _ ?side1 ?side2 A15.out).mono ?_);(case side1=>exact Kd.Cz (Kd.N_reads' HO949.out).2.2);(case side2=>exact(Kd.N_reads' HO949.out).2.1);rintro e w20 ⟨v952,rfl,ho0,hb⟩;refine⟨_,rfl,?_⟩;replace HO_6:=Aside0.mk (Kd.N_elder' (Kd.Nz HO_6.out) (Kd.R_base ho0) hb);replace HO949:=Aside0.mk (Kd.N_elder' (Kd.Nz HO949.out) (Kd.R_base ho0) hb);have HO953:=Aside0.mk (Kd.R_lower ho0 (below_size bz));replace HB:=Aside0.mk (below_step bz hb);(try clear hb);(try clear hb2);(try clear hk);(try clear hi);(try clear ho0)))
           go_ret2
           exact⟨by first|rfl|(simp[errW_none,errW_some]<;>rfl)|(simp[*,errW_none,errW_some]<;>rfl),bz⟩
          ·rw[if_neg c17] at H
           have c17b0:decide (3000<(wrap64 (x8_2+1)))=false:=decide_eq_false c17
           clear c17
           have H':=Aside0.mk H
           clear H
           go_wp2_with (first|((with_reducible refine gate_callee (f:=66) rfl ?_);refine goesL_ (some 37) rfl rfl Try.func66 (by kernel_rfl) rfl #[.slice Ao12 x6_2.length co12,.int .i64 a1] rfl az ?_;(with_reducible refine(impl_step.calls kj10 (fun k_=>True) _ _ x6_2 a1 t947 _ ?side1 A14.out).mono ?_);(case side1=>exact Kd.N_V (HO_6.out));rintro e w21 ⟨v948,rfl,ho0,hb⟩;refine⟨_,rfl,?_⟩;replace HO_6:=Aside0.mk (Kd.N_elder' (Kd.Nz HO_6.out) (Kd.N_base ho0) hb);have HO949:=Aside0.mk (Kd.N_lower (Kd.N_mono (ok':=fun k_=>True) ho0 (fun k_ hk_=>trivial)) (below_size bz));replace HB:=Aside0.mk (below_step bz hb);(try clear hb);(try clear hb2);(try clear hk);(try clear hi);(try clear ho0);obtain⟨Ao22,co22,eo22⟩:=Kd.N_slice HO949.out;subst eo22)|((with_reducible refine gate_callee (f:=49) rfl ?_);refine goesL_ (some 42) rfl rfl Try.func49 (by kernel_rfl) rfl #[.slice Ao22 t947.length co22] rfl az ?_;(with_reducible refine(impl_told.calls kj10 _ _ t947 t950 true _ ?side1 ?side2 A15.out).mono ?_);(case side1=>exact Kd.Cz (Kd.N_reads' HO949.out).2.2);(case side2=>exact(Kd.N_reads' HO949.out).2.1);rintro e w23 ⟨v952,rfl,ho0,hb⟩;refine⟨_,rfl,?_⟩;replace HO_6:=Aside0.mk (Kd.N_elder' (Kd.Nz HO_6.out) (Kd.R_base ho0) hb);replace HO949:=Aside0.mk (Kd.N_elder' (Kd.Nz HO949.out) (Kd.R_base ho0) hb);have HO953:=Aside0.mk (Kd.R_lower ho0 (below_size bz));replace HB:=Aside0.mk (below_step bz hb);(try clear hb);(try clear hb2);(try clear hk);(try clear hi);(try clear ho0)))
           go_roundg kj10
           case measure=>have:=HJ3.out;have:=HK2.out;have:=HJ10.out;omega
           case rel=>exact⟨(t947),(wrap64 (x8_2+1)),(x9_10),(by first|rfl|(simp;done)|(simp[*];done)),(by first|rfl|(simp;done)|(simp[*];done)),H',⟨by have:=HJ3.out;have:=HK2.out;have:=HJ10.out;omega⟩,⟨Kd.Nz <| Kd.N_mono HO949.out (fun _ hk=>trivial)⟩,⟨bz⟩⟩
         ·replace c16:=Bool.eq_false_iff.mpr c16
          subst c16
          have H1:(some ((-1),(-1)))=some (r1,r2):=by rw[if_neg (show ¬ (false=true) by decide)] at H;exact H
          clear H
          have H:=H1
          clear H1
          simp only[Option.some.injEq,Prod.mk.injEq] at H
          obtain⟨rfl,rfl⟩:=H
          go_wp2_with (first|((with_reducible refine gate_callee (f:=66) rfl ?_);refine goesL_ (some 37) rfl rfl Try.func66 (by kernel_rfl) rfl #[.slice Ao12 x6_2.length co12,.int .i64 a1] rfl az ?_;(with_reducible refine(impl_step.calls kj10 (fun k_=>True) _ _ x6_2 a1 t947 _ ?side1 A14.out).mono ?_);(case side1=>exact Kd.N_V (HO_6.out));rintro e w24 ⟨v948,rfl,ho0,hb⟩;refine⟨_,rfl,?_⟩;replace HO_6:=Aside0.mk (Kd.N_elder' (Kd.Nz HO_6.out) (Kd.N_base ho0) hb);have HO949:=Aside0.mk (Kd.N_lower (Kd.N_mono (ok':=fun k_=>True) ho0 (fun k_ hk_=>trivial)) (below_size bz));replace HB:=Aside0.mk (below_step bz hb);(try clear hb);(try clear hb2);(try clear hk);(try clear hi);(try clear ho0);obtain⟨Ao25,co25,eo25⟩:=Kd.N_slice HO949.out;subst eo25)|((with_reducible refine gate_callee (f:=49) rfl ?_);refine goesL_ (some 42) rfl rfl Try.func49 (by kernel_rfl) rfl #[.slice Ao25 t947.length co25] rfl az ?_;(with_reducible refine(impl_told.calls kj10 _ _ t947 t950 false _ ?side1 ?side2 A15.out).mono ?_);(case side1=>exact Kd.Cz (Kd.N_reads' HO949.out).2.2);(case side2=>exact(Kd.N_reads' HO949.out).2.1);rintro e w26 ⟨v952,rfl,ho0,hb⟩;refine⟨_,rfl,?_⟩;replace HO_6:=Aside0.mk (Kd.N_elder' (Kd.Nz HO_6.out) (Kd.R_base ho0) hb);replace HO949:=Aside0.mk (Kd.N_elder' (Kd.Nz HO949.out) (Kd.R_base ho0) hb);have HO953:=Aside0.mk (Kd.R_lower ho0 (below_size bz));replace HB:=Aside0.mk (below_step bz hb);(try clear hb);(try clear hb2);(try clear hk);(try clear hi);(try clear ho0)))
          go_ret2
          exact⟨by first|rfl|(simp[errW_none,errW_some]<;>rfl)|(simp[*,errW_none,errW_some]<;>rfl),bz⟩
      ·rw[if_neg c9] at H
       have c9b0:decide (0<(x6_2.length:Int))=false:=decide_eq_false c9
       have c9b1:decide (0<x6_2.length)=false:=decide_eq_false (by omega)
       clear c9
       simp only[Option.some.injEq,Prod.mk.injEq] at H
       obtain⟨rfl,rfl⟩:=H
       obtain⟨Ao27,co27,eo27⟩:=Kd.N_slice HO_6.out
       subst eo27
       go_wp2
       go_ret2
       exact⟨by first|rfl|(simp[errW_none,errW_some]<;>rfl)|(simp[*,errW_none,errW_some]<;>rfl),bz⟩
end Go.Proofs.Ytpgkpahhohfmhaa.P