/- One Go function comes to what its Lean function tells. -/
import Derived.Test.YtpgkpahhohfmhaaP0
import Derived.Test.YtpgkpahhohfmhaaPimplOrdAdd
import Derived.Test.YtpgkpahhohfmhaaPimplOrdNatural
import Derived.Test.YtpgkpahhohfmhaaPimplSlowValue
import Derived.Test.YtpgkpahhohfmhaaPimplStepsDown
import Derived.Test.YtpgkpahhohfmhaaPlawsalive
import Derived.Test.YtpgkpahhohfmhaaPlawssameInts
import Derived.Test.YtpgkpahhohfmhaaPspecDrawStepsDown
import Derived.Test.YtpgkpahhohfmhaaPspecStepsDown
namespace Go.Proofs.Ytpgkpahhohfmhaa.P
open Go.RowKit YtpgkpahhohfmhaaW.PrintWords YtpgkpahhohfmhaaW.PrintLast YtpgkpahhohfmhaaW.PrintMore
set_option linter.unusedVariables false
set_option linter.unusedSimpArgs false
/-! ### laws_FnStepsDown: function 10 -/
mutual
def laws_FnStepsDown.j0:Nat→List Int→List Int→Bool→Option (Bool)
 | 0,_,_,_=>none
 | k+1,x0,x1,x28=>if x28=true then(some true) else((spec_DrawStepsDown.f k x0).bind fun bt1077=>((impl_StepsDown.f k bt1077.1 bt1077.2).bind fun bt1081=>((spec_StepsDown.f k bt1077.1 bt1077.2).bind fun bt1083=>(if bt1081.1=bt1083.1 then(laws_FnStepsDown.j1 k x1 bt1077.1 bt1077.2 bt1081.1 bt1081.2 (bt1081.2 != bt1083.2)) else(laws_FnStepsDown.j1 k x1 bt1077.1 bt1077.2 bt1081.1 bt1081.2 true)))))
def laws_FnStepsDown.j1:Nat→List Int→List Int→Int→Int→Int→Bool→Option (Bool)
 | 0,_,_,_,_,_,_=>none
 | k+1,x1,x5,x6,x7,x8,x53=>if x53=true then(some false) else(if x7<0 then(if x7=(-1) then(if x8=(-1) then((laws_alive.f k).bind fun t1085=>(some t1085)) else(some false)) else(some false)) else(if x6>0 then((impl_SlowValue.f k x5 x6).bind fun t1086=>(laws_FnStepsDown.j2 k x1 x5 x6 x7 x8 (t1086 != x8))) else(laws_FnStepsDown.j2 k x1 x5 x6 x7 x8 false)))
def laws_FnStepsDown.j2:Nat→List Int→List Int→Int→Int→Int→Bool→Option (Bool)
 | 0,_,_,_,_,_,_=>none
 | k+1,x1,x5,x6,x7,x8,x73=>if x73=true then(some false) else((spec_DrawStepsDown.f k x1).bind fun bt1087=>((impl_OrdAdd.f k x5 bt1087.1).bind fun bt1091=>((impl_OrdNatural.f k x5 bt1087.1).bind fun bt1095=>((impl_StepsDown.f k bt1087.1 x6).bind fun bt1099=>((impl_StepsDown.f k bt1091.1 x6).bind fun bt1101=>(if x8≤x7 then(if bt1091.2=true then(if bt1095.2=true then((laws_sameInts.f k bt1091.1 bt1095.1).bind fun t1103=>(if t1103=true then(if bt1099.1<0 then(some true) else(if bt1101.1<0 then(some true) else(some (bt1101.1 == (wrap64 (x7+bt1099.1)))))) else(some true))) else(some true)) else(some true)) else(some false)))))))
end
def laws_FnStepsDown.f (k:Nat)(l0:List Int)(l1:List Int):Option (Bool):=if(l0.length:Int)>1048576 then(laws_FnStepsDown.j0 k l0 l1 true) else(laws_FnStepsDown.j0 k l0 l1 (decide ((l1.length:Int)>1048576)))
theorem laws_FnStepsDown.mono_l:∀ k,(∀ y0 y1 y2,LeO (laws_FnStepsDown.j0 k y0 y1 y2) (laws_FnStepsDown.j0 (k+1) y0 y1 y2))∧(∀ y0 y1 y2 y3 y4 y5,LeO (laws_FnStepsDown.j1 k y0 y1 y2 y3 y4 y5) (laws_FnStepsDown.j1 (k+1) y0 y1 y2 y3 y4 y5))∧(∀ y0 y1 y2 y3 y4 y5,LeO (laws_FnStepsDown.j2 k y0 y1 y2 y3 y4 y5) (laws_FnStepsDown.j2 (k+1) y0 y1 y2 y3 y4 y5))
 | 0=>⟨fun _ _ _ r h=>by simp[laws_FnStepsDown.j0] at h,fun _ _ _ _ _ _ r h=>by simp[laws_FnStepsDown.j1] at h,fun _ _ _ _ _ _ r h=>by simp[laws_FnStepsDown.j2] at h⟩
 | k+1=>by
  obtain⟨ih0,ih1,ih2⟩:=laws_FnStepsDown.mono_l k
  refine⟨?_,?_,?_⟩
  ·intro y0 y1 y2
   unfold laws_FnStepsDown.j0
   repeat' first|(with_reducible first|exact ih0 _ _ _|exact ih1 _ _ _ _ _ _|exact impl_StepsDown.mono _ _ _|exact spec_DrawStepsDown.mono _ _|exact spec_StepsDown.mono _ _ _|exact LeO.refl _|exact LeO.none _|refine LeO.ite ?_ ?_|refine LeO.bind ?_ (fun _=>?_))|exact ih0 _ _ _|exact ih1 _ _ _ _ _ _|exact impl_StepsDown.mono _ _ _|exact spec_DrawStepsDown.mono _ _|exact spec_StepsDown.mono _ _ _|exact LeO.none _|refine LeO.ite ?_ ?_|refine LeO.bind ?_ (fun _=>?_)
  ·intro y0 y1 y2 y3 y4 y5
   unfold laws_FnStepsDown.j1
   repeat' first|(with_reducible first|exact ih1 _ _ _ _ _ _|exact ih2 _ _ _ _ _ _|exact impl_SlowValue.mono _ _ _|exact laws_alive.mono _|exact LeO.refl _|exact LeO.none _|refine LeO.ite ?_ ?_|refine LeO.bind ?_ (fun _=>?_))|exact ih1 _ _ _ _ _ _|exact ih2 _ _ _ _ _ _|exact impl_SlowValue.mono _ _ _|exact laws_alive.mono _|exact LeO.none _|refine LeO.ite ?_ ?_|refine LeO.bind ?_ (fun _=>?_)
  ·intro y0 y1 y2 y3 y4 y5
   unfold laws_FnStepsDown.j2
   repeat' first|(with_reducible first|exact ih2 _ _ _ _ _ _|exact impl_OrdAdd.mono _ _ _|exact impl_OrdNatural.mono _ _ _|exact impl_StepsDown.mono _ _ _|exact laws_sameInts.mono _ _ _|exact spec_DrawStepsDown.mono _ _|exact LeO.refl _|exact LeO.none _|refine LeO.ite ?_ ?_|refine LeO.bind ?_ (fun _=>?_))|exact ih2 _ _ _ _ _ _|exact impl_OrdAdd.mono _ _ _|exact impl_OrdNatural.mono _ _ _|exact impl_StepsDown.mono _ _ _|exact laws_sameInts.mono _ _ _|exact spec_DrawStepsDown.mono _ _|exact LeO.none _|refine LeO.ite ?_ ?_|refine LeO.bind ?_ (fun _=>?_)
theorem laws_FnStepsDown.mono:∀ a0 a1 k,LeO (laws_FnStepsDown.f k a0 a1) (laws_FnStepsDown.f (k+1) a0 a1):=by
 intro a0 a1 k
 obtain⟨ih0,ih1,ih2⟩:=laws_FnStepsDown.mono_l k
 unfold laws_FnStepsDown.f
 repeat' first|(with_reducible first|exact ih0 _ _ _|exact ih1 _ _ _ _ _ _|exact ih2 _ _ _ _ _ _|exact LeO.refl _|exact LeO.none _|refine LeO.ite ?_ ?_|refine LeO.bind ?_ (fun _=>?_))|exact ih0 _ _ _|exact ih1 _ _ _ _ _ _|exact ih2 _ _ _ _ _ _|exact LeO.none _|refine LeO.ite ?_ ?_|refine LeO.bind ?_ (fun _=>?_)
set_option maxHeartbeats 8000000 in
set_option maxRecDepth 100000 in
theorem laws_FnStepsDown.calls (k:Nat)(A0:Option Addr)(c0:Nat)(l0:List Int)(A1:Option Addr)(c1:Nat)(l1:List Int)(r:Bool)(w:World)(hr0:Kd.C (Kd.int .u8) w A0 l0.length l0)(hc0:l0.length≤c0)(hr1:Kd.C (Kd.int .u8) w A1 l1.length l1)(hc1:l1.length≤c1)(h:laws_FnStepsDown.f k l0 l1=some r) :
  Calls Try.prog 10 #[.slice A0 l0.length c0,.slice A1 l1.length c1] w fun e w'=>e=.returned (.bool r)∧Below w.heap.size w w':=by
 have HR0:=Aside0.mk hr0
 have HC0:=Aside0.mk hc0
 clear hr0 hc0
 have HR1:=Aside0.mk hr1
 have HC1:=Aside0.mk hc1
 clear hr1 hc1
 have HB:=Aside0.mk (Below.refl w.heap.size w)
 have H:(if(l0.length:Int)>1048576 then(laws_FnStepsDown.j0 k l0 l1 true) else(laws_FnStepsDown.j0 k l0 l1 (decide ((l1.length:Int)>1048576))))=some r:=h
 clear h
 have HC3:=Aside0.mk H
 clear H
 go_enter Try.func10,Try.ntmps10
 go_upto_region 1 with (fail)
 go_cut [28] (fun v28 wc=>∃ (kq:Nat) (x28_2:Bool),v28=.bool x28_2∧Aside0 (laws_FnStepsDown.j0 kq l0 l1 x28_2=some r)∧Aside0 (kq≤k)∧Aside0 (Below w.heap.size w wc))
 case first =>
  have H:=HC3.out
  clear HC3
  by_cases c4:(l0.length:Int)>1048576
  ·rw[if_pos c4] at H
   have c4b0:decide (1048576<(l0.length:Int))=true:=decide_eq_true c4
   have c4b1:decide (1048576<l0.length)=true:=decide_eq_true (by omega)
   clear c4
   (first|rw[c4b0]|(simp only[i64_w,i32_w];rw[c4b0])|skip)
   have H':=Aside0.mk H
   clear H
   go_wp2
   go_meet
   case rel=>exact⟨_,(true),(by first|rfl|(simp;done)|(simp[*];done)),H',⟨by first|omega|exact Nat.le_refl _⟩,⟨bz⟩⟩
  ·rw[if_neg c4] at H
   have c4b0:decide (1048576<(l0.length:Int))=false:=decide_eq_false c4
   have c4b1:decide (1048576<l0.length)=false:=decide_eq_false (by omega)
   clear c4
   (first|rw[c4b0]|(simp only[i64_w,i32_w];rw[c4b0])|skip)
   have H':=Aside0.mk H
   clear H
   go_wp2
   go_meet
   case rel=>exact⟨_,(decide ((l1.length:Int)>1048576)),(by first|rfl|(simp;done)|(simp[*];done)),H',⟨by first|omega|exact Nat.le_refl _⟩,⟨bz⟩⟩
 case rest =>
  clear HC3
  try clear c1
  try clear p2
  try clear c4
  try clear c4b0
  try clear c4b1
  obtain⟨kq,x28_2,rfl,HA,HJ2,HB⟩:=hcut
  cases kq with
  | zero=>exact absurd HA.out (by simp[laws_FnStepsDown.j0])
  | succ kj2 =>
   have H:=HA.out
   clear HA
   simp only[laws_FnStepsDown.j0] at H
   by_cases c5:x28_2=true
   ·subst c5
    have H1:(some true)=some r:=by rw[if_pos rfl] at H;exact H
    clear H
    have H:=H1
    clear H1
    obtain rfl:=Option.some.inj H
    go_wp2
    go_ret
    exact⟨by first|rfl|(simp[errW_none,errW_some]<;>rfl)|(simp[*,errW_none,errW_some]<;>rfl),bz⟩
   ·replace c5:=Bool.eq_false_iff.mpr c5
    subst c5
    have H1:((spec_DrawStepsDown.f kj2 l0).bind fun bt1077=>((impl_StepsDown.f kj2 bt1077.1 bt1077.2).bind fun bt1081=>((spec_StepsDown.f kj2 bt1077.1 bt1077.2).bind fun bt1083=>(if bt1081.1=bt1083.1 then(laws_FnStepsDown.j1 kj2 l1 bt1077.1 bt1077.2 bt1081.1 bt1081.2 (bt1081.2 != bt1083.2)) else(laws_FnStepsDown.j1 kj2 l1 bt1077.1 bt1077.2 bt1081.1 bt1081.2 true)))))=some r:=by rw[if_neg (show ¬ (false=true) by decide)] at H;exact H
    clear H
    have H:=H1
    clear H1
    replace H:=Option.bind_eq_some_iff.mp H
    obtain⟨⟨t1077,t1078⟩,A60,H⟩:=H
    replace H:((impl_StepsDown.f kj2 t1077 t1078).bind fun bt1081=>((spec_StepsDown.f kj2 t1077 t1078).bind fun bt1083=>(if bt1081.1=bt1083.1 then(laws_FnStepsDown.j1 kj2 l1 t1077 t1078 bt1081.1 bt1081.2 (bt1081.2 != bt1083.2)) else(laws_FnStepsDown.j1 kj2 l1 t1077 t1078 bt1081.1 bt1081.2 true))))=some r:=H
    have A6:=Aside0.mk A60
    clear A60
    replace H:=Option.bind_eq_some_iff.mp H
    obtain⟨⟨t1081,t1082⟩,A70,H⟩:=H
    replace H:((spec_StepsDown.f kj2 t1077 t1078).bind fun bt1083=>(if t1081=bt1083.1 then(laws_FnStepsDown.j1 kj2 l1 t1077 t1078 t1081 t1082 (t1082 != bt1083.2)) else(laws_FnStepsDown.j1 kj2 l1 t1077 t1078 t1081 t1082 true)))=some r:=H
    have A7:=Aside0.mk A70
    clear A70
    replace H:=Option.bind_eq_some_iff.mp H
    obtain⟨⟨t1083,t1084⟩,A80,H⟩:=H
    replace H:(if t1081=t1083 then(laws_FnStepsDown.j1 kj2 l1 t1077 t1078 t1081 t1082 (t1082 != t1084)) else(laws_FnStepsDown.j1 kj2 l1 t1077 t1078 t1081 t1082 true))=some r:=H
    have A8:=Aside0.mk A80
    clear A80
    have HC9:=Aside0.mk H
    clear H
    go_upto_region 6 with (first|((with_reducible refine gate_callee (f:=40) rfl ?_);refine goesL_ (some 31) rfl rfl Try.func40 (by kernel_rfl) rfl #[.slice A0 l0.length c0] rfl az ?_;(with_reducible refine(spec_DrawStepsDown.calls kj2 _ _ l0 t1077 t1078 _ ?side1 ?side2 A6.out).mono ?_);(case side1=>exact Kd.Cz (Kd.C_below HR0.out HB.out));(case side2=>exact HC0.out);rintro e w10 ⟨v1079,rfl,ho0,hb⟩;refine⟨_,rfl,?_⟩;have HO1080:=Aside0.mk (Kd.R_lower ho0 (below_size bz));replace HB:=Aside0.mk (below_step bz hb);(try clear hb);(try clear hb2);(try clear hk);(try clear hi);(try clear ho0);obtain⟨Ao11,co11,eo11⟩:=Kd.R_slice HO1080.out;subst eo11)|((with_reducible refine gate_callee (f:=41) rfl ?_);refine goesL_ (some 37) rfl rfl Try.func41 (by kernel_rfl) rfl #[.slice Ao11 t1077.length co11,.int .i64 t1078] rfl az ?_;(with_reducible refine(impl_StepsDown.calls kj2 _ _ t1077 t1078 t1081 t1082 _ ?side1 ?side2 A7.out).mono ?_);(case side1=>exact Kd.Cz (Kd.R_reads' HO1080.out).2.2);(case side2=>exact(Kd.R_reads' HO1080.out).2.1);rintro e w12 ⟨rfl,hb⟩;refine⟨_,rfl,?_⟩;replace HO1080:=Aside0.mk (Kd.R_below (Kd.Rz HO1080.out) hb);replace HB:=Aside0.mk (below_step bz hb);(try clear hb);(try clear hb2);(try clear hk);(try clear hi))|((with_reducible refine gate_callee (f:=42) rfl ?_);refine goesL_ (some 43) rfl rfl Try.func42 (by kernel_rfl) rfl #[.slice Ao11 t1077.length co11,.int .i64 t1078] rfl az ?_;(with_reducible refine(spec_StepsDown.calls kj2 (fun k_=>some k_=(.slice Ao11 t1077.length co11:Value).ownBlock) _ _ t1077 t1078 t1083 t1084 _ ?side1 A8.out).mono ?_);(case side1=>exact Kd.R_V (Kd.R_tight rfl (HO1080.out)));rintro e w13 ⟨rfl,hb⟩;refine⟨_,rfl,?_⟩;replace HO1080:=Aside0.mk (Kd.R_below (Kd.Rz HO1080.out) hb);replace HB:=Aside0.mk (below_step bz hb);(try clear hb);(try clear hb2);(try clear hk);(try clear hi)))
    (try simp only[Act.put,List.setIfInBounds_toArray,List.set_cons_zero,List.set_cons_succ])
    go_cut [53] (fun v53 wc=>∃ (kq:Nat) (x53_8:Bool),v53=.bool x53_8∧Aside0 (laws_FnStepsDown.j1 kq l1 t1077 t1078 t1081 t1082 x53_8=some r)∧Aside0 (kq≤kj2)∧Aside0 (Kd.R (Kd.int .i64) 3 wc w.heap.size (fun _=>True) (.slice Ao11 t1077.length co11) t1077)∧Aside0 (Below w.heap.size w wc))
    case first =>
     have H:=HC9.out
     clear HC9
     by_cases c14:t1081=t1083
     ·rw[if_pos c14] at H
      have c14b0:(t1081 == t1083)=true:=beq_iff_eq.mpr c14
      have c14b1:(t1081 != t1083)=false:=bne_eq_false_iff_eq.mpr c14
      clear c14
      (first|rw[c14b0]|(simp only[i64_w,i32_w];rw[c14b0])|skip)
      have H':=Aside0.mk H
      clear H
      go_wp2
      go_meet
      case rel=>exact⟨_,((t1082 != t1084)),(by first|rfl|(simp;done)|(simp[*];done)),H',⟨by have:=HJ2.out;first|omega|exact Nat.le_refl _⟩,⟨by(with_reducible repeat (first|apply Kd.R_alloc|apply Kd.R_drewN|apply Kd.R_drew));exact HO1080.out⟩,⟨bz⟩⟩
     ·rw[if_neg c14] at H
      have c14b0:(t1081 == t1083)=false:=beq_eq_false_iff_ne.mpr c14
      have c14b1:(t1081 != t1083)=true:=bne_iff_ne.mpr c14
      (first|rw[c14b0]|(simp only[i64_w,i32_w];rw[c14b0])|skip)
      have H':=Aside0.mk H
      clear H
      go_wp2
      go_meet
      case rel=>exact⟨_,(true),(by first|rfl|(simp;done)|(simp[*];done)),H',⟨by have:=HJ2.out;first|omega|exact Nat.le_refl _⟩,⟨by(with_reducible repeat (first|apply Kd.R_alloc|apply Kd.R_drewN|apply Kd.R_drew));exact HO1080.out⟩,⟨bz⟩⟩
    case rest =>
     clear HC9
     try clear c1
     try clear p2
     try clear c4
     try clear c4b0
     try clear c4b1
     try clear c5
     try clear c10
     try clear c14
     try clear c14b0
     try clear c14b1
     try clear p2
     obtain⟨kq,x53_8,rfl,HA,HJ8,HO_5,HB⟩:=hcut
     cases kq with
     | zero=>exact absurd HA.out (by simp[laws_FnStepsDown.j1])
     | succ kj8 =>
      have H:=HA.out
      clear HA
      simp only[laws_FnStepsDown.j1] at H
      by_cases c15:x53_8=true
      ·subst c15
       have H1:(some false)=some r:=by rw[if_pos rfl] at H;exact H
       clear H
       have H:=H1
       clear H1
       obtain rfl:=Option.some.inj H
       go_wp2
       go_ret
       exact⟨by first|rfl|(simp[errW_none,errW_some]<;>rfl)|(simp[*,errW_none,errW_some]<;>rfl),bz⟩
      ·replace c15:=Bool.eq_false_iff.mpr c15
       subst c15
       have H1:(if t1081<0 then(if t1081=(-1) then(if t1082=(-1) then((laws_alive.f kj8).bind fun t1085=>(some t1085)) else(some false)) else(some false)) else(if t1078>0 then((impl_SlowValue.f kj8 t1077 t1078).bind fun t1086=>(laws_FnStepsDown.j2 kj8 l1 t1077 t1078 t1081 t1082 (t1086 != t1082))) else(laws_FnStepsDown.j2 kj8 l1 t1077 t1078 t1081 t1082 false)))=some r:=by rw[if_neg (show ¬ (false=true) by decide)] at H;exact H
       clear H
       have H:=H1
       clear H1
       by_cases c16:t1081<0
       ·rw[if_pos c16] at H
        have c16b0:decide (t1081<0)=true:=decide_eq_true c16
        clear c16
        by_cases c17:t1081=(-1)
        ·rw[if_pos c17] at H
         have c17b0:(t1081 == (-1))=true:=beq_iff_eq.mpr c17
         have c17b1:(t1081 != (-1))=false:=bne_eq_false_iff_eq.mpr c17
         clear c17
         by_cases c18:t1082=(-1)
         ·rw[if_pos c18] at H
          have c18b0:(t1082 == (-1))=true:=beq_iff_eq.mpr c18
          have c18b1:(t1082 != (-1))=false:=bne_eq_false_iff_eq.mpr c18
          clear c18
          replace H:=Option.bind_eq_some_iff.mp H
          obtain⟨t1085,A190,H⟩:=H
          replace H:(some t1085)=some r:=H
          have A19:=Aside0.mk A190
          clear A190
          obtain rfl:=Option.some.inj H
          go_wp2_with (first|(go_at_call 15;(with_reducible refine(laws_alive.calls kj8  t1085 _ A19.out).mono ?_);rintro e w20 ⟨rfl,hb⟩;replace HO_5:=Aside0.mk (Kd.R_below (Kd.Rz HO_5.out) hb);replace HB:=Aside0.mk (below_step bz hb);(try clear hb);(try clear hb2);(try clear hk);(try clear hi)))
          go_ret
          exact⟨by first|rfl|(simp[errW_none,errW_some]<;>rfl)|(simp[*,errW_none,errW_some]<;>rfl),bz⟩
         ·rw[if_neg c18] at H
          have c18b0:(t1082 == (-1))=false:=beq_eq_false_iff_ne.mpr c18
          have c18b1:(t1082 != (-1))=true:=bne_iff_ne.mpr c18
          obtain rfl:=Option.some.inj H
          go_wp2
          go_ret
          exact⟨by first|rfl|(simp[errW_none,errW_some]<;>rfl)|(simp[*,errW_none,errW_some]<;>rfl),bz⟩
        ·rw[if_neg c17] at H
         have c17b0:(t1081 == (-1))=false:=beq_eq_false_iff_ne.mpr c17
         have c17b1:(t1081 != (-1))=true:=bne_iff_ne.mpr c17
         obtain rfl:=Option.some.inj H
         go_wp2
         go_ret
         exact⟨by first|rfl|(simp[errW_none,errW_some]<;>rfl)|(simp[*,errW_none,errW_some]<;>rfl),bz⟩
       ·rw[if_neg c16] at H
        have c16b0:decide (t1081<0)=false:=decide_eq_false c16
        clear c16
        have HC21:=Aside0.mk H
        clear H
        go_upto_region 10 with (fail)
        go_cut [73] (fun v73 wc=>∃ (kq:Nat) (x73_20:Bool),v73=.bool x73_20∧Aside0 (laws_FnStepsDown.j2 kq l1 t1077 t1078 t1081 t1082 x73_20=some r)∧Aside0 (kq≤kj8)∧Aside0 (Kd.R (Kd.int .i64) 3 wc w.heap.size (fun _=>True) (.slice Ao11 t1077.length co11) t1077)∧Aside0 (Below w.heap.size w wc))
        case first =>
         have H:=HC21.out
         clear HC21
         by_cases c22:t1078>0
         ·rw[if_pos c22] at H
          have c22b0:decide (0<t1078)=true:=decide_eq_true c22
          clear c22
          (first|rw[c22b0]|(simp only[i64_w,i32_w];rw[c22b0])|skip)
          replace H:=Option.bind_eq_some_iff.mp H
          obtain⟨t1086,A230,H⟩:=H
          replace H:(laws_FnStepsDown.j2 kj8 l1 t1077 t1078 t1081 t1082 (t1086 != t1082))=some r:=H
          have A23:=Aside0.mk A230
          clear A230
          have H':=Aside0.mk H
          clear H
          go_wp2_with (first|(go_at_call 18;(with_reducible refine(impl_SlowValue.calls kj8 _ _ t1077 t1078 t1086 _ ?side1 ?side2 A23.out).mono ?_);(case side1=>exact Kd.Cz (Kd.R_reads' HO_5.out).2.2);(case side2=>exact(Kd.R_reads' HO_5.out).2.1);rintro e w24 ⟨rfl,hb⟩;replace HO_5:=Aside0.mk (Kd.R_below (Kd.Rz HO_5.out) hb);replace HB:=Aside0.mk (below_step bz hb);(try clear hb);(try clear hb2);(try clear hk);(try clear hi)))
          go_meet
          case rel=>exact⟨_,((t1086 != t1082)),(by first|rfl|(simp;done)|(simp[*];done)),H',⟨by have:=HJ2.out;have:=HJ8.out;first|omega|exact Nat.le_refl _⟩,⟨by(with_reducible repeat (first|apply Kd.R_alloc|apply Kd.R_drewN|apply Kd.R_drew));exact HO_5.out⟩,⟨bz⟩⟩
         ·rw[if_neg c22] at H
          have c22b0:decide (0<t1078)=false:=decide_eq_false c22
          clear c22
          (first|rw[c22b0]|(simp only[i64_w,i32_w];rw[c22b0])|skip)
          have H':=Aside0.mk H
          clear H
          go_wp2
          go_meet
          case rel=>exact⟨_,(false),(by first|rfl|(simp;done)|(simp[*];done)),H',⟨by have:=HJ2.out;have:=HJ8.out;first|omega|exact Nat.le_refl _⟩,⟨by(with_reducible repeat (first|apply Kd.R_alloc|apply Kd.R_drewN|apply Kd.R_drew));exact HO_5.out⟩,⟨bz⟩⟩
        case rest =>
         clear HC21
         try clear c1
         try clear c2
         try clear p2
         try clear c4
         try clear c4b0
         try clear c4b1
         try clear c5
         try clear c10
         try clear c14
         try clear c14b0
         try clear c14b1
         try clear c15
         try clear c16
         try clear c16b0
         try clear c17
         try clear c17b0
         try clear c17b1
         try clear c18
         try clear c18b0
         try clear c18b1
         try clear c22
         try clear c22b0
         try clear p2
         obtain⟨kq,x73_20,rfl,HA,HJ20,HO_5,HB⟩:=hcut
         cases kq with
         | zero=>exact absurd HA.out (by simp[laws_FnStepsDown.j2])
         | succ kj20 =>
          have H:=HA.out
          clear HA
          simp only[laws_FnStepsDown.j2] at H
          by_cases c25:x73_20=true
          ·subst c25
           have H1:(some false)=some r:=by rw[if_pos rfl] at H;exact H
           clear H
           have H:=H1
           clear H1
           obtain rfl:=Option.some.inj H
           go_wp2
           go_ret
           exact⟨by first|rfl|(simp[errW_none,errW_some]<;>rfl)|(simp[*,errW_none,errW_some]<;>rfl),bz⟩
          ·replace c25:=Bool.eq_false_iff.mpr c25
           subst c25
           have H1:((spec_DrawStepsDown.f kj20 l1).bind fun bt1087=>((impl_OrdAdd.f kj20 t1077 bt1087.1).bind fun bt1091=>((impl_OrdNatural.f kj20 t1077 bt1087.1).bind fun bt1095=>((impl_StepsDown.f kj20 bt1087.1 t1078).bind fun bt1099=>((impl_StepsDown.f kj20 bt1091.1 t1078).bind fun bt1101=>(if t1082≤t1081 then(if bt1091.2=true then(if bt1095.2=true then((laws_sameInts.f kj20 bt1091.1 bt1095.1).bind fun t1103=>(if t1103=true then(if bt1099.1<0 then(some true) else(if bt1101.1<0 then(some true) else(some (bt1101.1 == (wrap64 (t1081+bt1099.1)))))) else(some true))) else(some true)) else(some true)) else(some false)))))))=some r:=by rw[if_neg (show ¬ (false=true) by decide)] at H;exact H
           clear H
           have H:=H1
           clear H1
           replace H:=Option.bind_eq_some_iff.mp H
           obtain⟨⟨t1087,t1088⟩,A260,H⟩:=H
           replace H:((impl_OrdAdd.f kj20 t1077 t1087).bind fun bt1091=>((impl_OrdNatural.f kj20 t1077 t1087).bind fun bt1095=>((impl_StepsDown.f kj20 t1087 t1078).bind fun bt1099=>((impl_StepsDown.f kj20 bt1091.1 t1078).bind fun bt1101=>(if t1082≤t1081 then(if bt1091.2=true then(if bt1095.2=true then((laws_sameInts.f kj20 bt1091.1 bt1095.1).bind fun t1103=>(if t1103=true then(if bt1099.1<0 then(some true) else(if bt1101.1<0 then(some true) else(some (bt1101.1 == (wrap64 (t1081+bt1099.1)))))) else(some true))) else(some true)) else(some true)) else(some false))))))=some r:=H
           have A26:=Aside0.mk A260
           clear A260
           replace H:=Option.bind_eq_some_iff.mp H
           obtain⟨⟨t1091,t1092⟩,A270,H⟩:=H
           replace H:((impl_OrdNatural.f kj20 t1077 t1087).bind fun bt1095=>((impl_StepsDown.f kj20 t1087 t1078).bind fun bt1099=>((impl_StepsDown.f kj20 t1091 t1078).bind fun bt1101=>(if t1082≤t1081 then(if t1092=true then(if bt1095.2=true then((laws_sameInts.f kj20 t1091 bt1095.1).bind fun t1103=>(if t1103=true then(if bt1099.1<0 then(some true) else(if bt1101.1<0 then(some true) else(some (bt1101.1 == (wrap64 (t1081+bt1099.1)))))) else(some true))) else(some true)) else(some true)) else(some false)))))=some r:=H
           have A27:=Aside0.mk A270
           clear A270
           replace H:=Option.bind_eq_some_iff.mp H
           obtain⟨⟨t1095,t1096⟩,A280,H⟩:=H
           replace H:((impl_StepsDown.f kj20 t1087 t1078).bind fun bt1099=>((impl_StepsDown.f kj20 t1091 t1078).bind fun bt1101=>(if t1082≤t1081 then(if t1092=true then(if t1096=true then((laws_sameInts.f kj20 t1091 t1095).bind fun t1103=>(if t1103=true then(if bt1099.1<0 then(some true) else(if bt1101.1<0 then(some true) else(some (bt1101.1 == (wrap64 (t1081+bt1099.1)))))) else(some true))) else(some true)) else(some true)) else(some false))))=some r:=H
           have A28:=Aside0.mk A280
           clear A280
           replace H:=Option.bind_eq_some_iff.mp H
           obtain⟨⟨t1099,t1100⟩,A290,H⟩:=H
           replace H:((impl_StepsDown.f kj20 t1091 t1078).bind fun bt1101=>(if t1082≤t1081 then(if t1092=true then(if t1096=true then((laws_sameInts.f kj20 t1091 t1095).bind fun t1103=>(if t1103=true then(if t1099<0 then(some true) else(if bt1101.1<0 then(some true) else(some (bt1101.1 == (wrap64 (t1081+t1099)))))) else(some true))) else(some true)) else(some true)) else(some false)))=some r:=H
           have A29:=Aside0.mk A290
           clear A290
           replace H:=Option.bind_eq_some_iff.mp H
           obtain⟨⟨t1101,t1102⟩,A300,H⟩:=H
           replace H:(if t1082≤t1081 then(if t1092=true then(if t1096=true then((laws_sameInts.f kj20 t1091 t1095).bind fun t1103=>(if t1103=true then(if t1099<0 then(some true) else(if t1101<0 then(some true) else(some (t1101 == (wrap64 (t1081+t1099)))))) else(some true))) else(some true)) else(some true)) else(some false))=some r:=H
           have A30:=Aside0.mk A300
           clear A300
           by_cases c31:t1082≤t1081
           ·rw[if_pos c31] at H
            have c31b0:decide (t1082≤t1081)=true:=decide_eq_true c31
            clear c31
            by_cases c32:t1092=true
            ·subst c32
             have H1:(if t1096=true then((laws_sameInts.f kj20 t1091 t1095).bind fun t1103=>(if t1103=true then(if t1099<0 then(some true) else(if t1101<0 then(some true) else(some (t1101 == (wrap64 (t1081+t1099)))))) else(some true))) else(some true))=some r:=by rw[if_pos rfl] at H;exact H
             clear H
             have H:=H1
             clear H1
             by_cases c33:t1096=true
             ·subst c33
              have H1:((laws_sameInts.f kj20 t1091 t1095).bind fun t1103=>(if t1103=true then(if t1099<0 then(some true) else(if t1101<0 then(some true) else(some (t1101 == (wrap64 (t1081+t1099)))))) else(some true)))=some r:=by rw[if_pos rfl] at H;exact H
              clear H
              have H:=H1
              clear H1
              replace H:=Option.bind_eq_some_iff.mp H
              obtain⟨t1103,A340,H⟩:=H
              replace H:(if t1103=true then(if t1099<0 then(some true) else(if t1101<0 then(some true) else(some (t1101 == (wrap64 (t1081+t1099)))))) else(some true))=some r:=H
              have A34:=Aside0.mk A340
              clear A340
              by_cases c35:t1103=true
              ·subst c35
               have H1:(if t1099<0 then(some true) else(if t1101<0 then(some true) else(some (t1101 == (wrap64 (t1081+t1099))))))=some r:=by rw[if_pos rfl] at H;exact H
               clear H
               have H:=H1
               clear H1
               by_cases c36:t1099<0
               ·rw[if_pos c36] at H
                have c36b0:decide (t1099<0)=true:=decide_eq_true c36
                clear c36
                obtain rfl:=Option.some.inj H
                go_wp2_with (first|((with_reducible refine gate_callee (f:=40) rfl ?_);refine goesL_ (some 76) rfl rfl Try.func40 (by kernel_rfl) rfl #[.slice A1 l1.length c1] rfl az ?_;(with_reducible refine(spec_DrawStepsDown.calls kj20 _ _ l1 t1087 t1088 _ ?side1 ?side2 A26.out).mono ?_);(case side1=>exact Kd.Cz (Kd.C_below HR1.out HB.out));(case side2=>exact HC1.out);rintro e w37 ⟨v1089,rfl,ho0,hb⟩;refine⟨_,rfl,?_⟩;have HO1090:=Aside0.mk (Kd.R_lower (Kd.R_new' ho0 (Kd.R_lt (Kd.Rz HO_5.out))) (below_size bz));replace HO_5:=Aside0.mk (Kd.R_elder' (Kd.Rz HO_5.out) (Kd.R_base ho0) hb);replace HB:=Aside0.mk (below_step bz hb);(try clear hb);(try clear hb2);(try clear hk);(try clear hi);(try clear ho0);obtain⟨Ao38,co38,eo38⟩:=Kd.R_slice HO1090.out;subst eo38)|((with_reducible refine gate_callee (f:=43) rfl ?_);refine goesL_ (some 82) rfl rfl Try.func43 (by kernel_rfl) rfl #[.slice Ao11 t1077.length co11,.slice Ao38 t1087.length co38] rfl az ?_;(with_reducible refine(impl_OrdAdd.calls kj20 _ _ t1077 _ _ t1087 t1091 true _ ?side1 ?side2 ?side3 ?side4 A27.out).mono ?_);(case side1=>exact Kd.Cz (Kd.R_reads' HO_5.out).2.2);(case side2=>exact(Kd.R_reads' HO_5.out).2.1);(case side3=>exact Kd.Cz (Kd.R_reads' HO1090.out).2.2);(case side4=>exact(Kd.R_reads' HO1090.out).2.1);rintro e w39 ⟨v1093,rfl,ho0,hb⟩;refine⟨_,rfl,?_⟩;have HO1094:=Aside0.mk (Kd.R_lower (Kd.R_new' (Kd.R_new' ho0 (Kd.R_lt (Kd.Rz HO_5.out))) (Kd.R_lt (Kd.Rz HO1090.out))) (below_size bz));replace HO_5:=Aside0.mk (Kd.R_elder' (Kd.Rz HO_5.out) (Kd.R_base ho0) hb);replace HO1090:=Aside0.mk (Kd.R_elder' (Kd.Rz HO1090.out) (Kd.R_base ho0) hb);replace HB:=Aside0.mk (below_step bz hb);(try clear hb);(try clear hb2);(try clear hk);(try clear hi);(try clear ho0))|((with_reducible refine gate_callee (f:=44) rfl ?_);refine goesL_ (some 88) rfl rfl Try.func44 (by kernel_rfl) rfl #[.slice Ao11 t1077.length co11,.slice Ao38 t1087.length co38] rfl az ?_;(with_reducible refine(impl_OrdNatural.calls kj20 _ _ t1077 _ _ t1087 t1095 true _ ?side1 ?side2 ?side3 ?side4 A28.out).mono ?_);(case side1=>exact Kd.Cz (Kd.R_reads' HO_5.out).2.2);(case side2=>exact(Kd.R_reads' HO_5.out).2.1);(case side3=>exact Kd.Cz (Kd.R_reads' HO1090.out).2.2);(case side4=>exact(Kd.R_reads' HO1090.out).2.1);rintro e w40 ⟨v1097,rfl,ho0,hb⟩;refine⟨_,rfl,?_⟩;have HO1098:=Aside0.mk (Kd.R_lower (Kd.R_new' (Kd.R_new' (Kd.R_new' ho0 (Kd.R_lt (Kd.Rz HO_5.out))) (Kd.R_lt (Kd.Rz HO1090.out))) (Kd.R_lt (Kd.Rz HO1094.out))) (below_size bz));replace HO_5:=Aside0.mk (Kd.R_elder' (Kd.Rz HO_5.out) (Kd.R_base ho0) hb);replace HO1090:=Aside0.mk (Kd.R_elder' (Kd.Rz HO1090.out) (Kd.R_base ho0) hb);replace HO1094:=Aside0.mk (Kd.R_elder' (Kd.Rz HO1094.out) (Kd.R_base ho0) hb);replace HB:=Aside0.mk (below_step bz hb);(try clear hb);(try clear hb2);(try clear hk);(try clear hi);(try clear ho0))|((with_reducible refine gate_callee (f:=41) rfl ?_);refine goesL_ (some 94) rfl rfl Try.func41 (by kernel_rfl) rfl #[.slice Ao38 t1087.length co38,.int .i64 t1078] rfl az ?_;(with_reducible refine(impl_StepsDown.calls kj20 _ _ t1087 t1078 t1099 t1100 _ ?side1 ?side2 A29.out).mono ?_);(case side1=>exact Kd.Cz (Kd.R_reads' HO1090.out).2.2);(case side2=>exact(Kd.R_reads' HO1090.out).2.1);rintro e w41 ⟨rfl,hb⟩;refine⟨_,rfl,?_⟩;replace HO_5:=Aside0.mk (Kd.R_below (Kd.Rz HO_5.out) hb);replace HO1090:=Aside0.mk (Kd.R_below (Kd.Rz HO1090.out) hb);replace HO1094:=Aside0.mk (Kd.R_below (Kd.Rz HO1094.out) hb);replace HO1098:=Aside0.mk (Kd.R_below (Kd.Rz HO1098.out) hb);replace HB:=Aside0.mk (below_step bz hb);(try clear hb);(try clear hb2);(try clear hk);(try clear hi);obtain⟨Ao42,co42,eo42⟩:=Kd.R_slice HO1094.out;subst eo42)|((with_reducible refine gate_callee (f:=41) rfl ?_);refine goesL_ (some 100) rfl rfl Try.func41 (by kernel_rfl) rfl #[.slice Ao42 t1091.length co42,.int .i64 t1078] rfl az ?_;(with_reducible refine(impl_StepsDown.calls kj20 _ _ t1091 t1078 t1101 t1102 _ ?side1 ?side2 A30.out).mono ?_);(case side1=>exact Kd.Cz (Kd.R_reads' HO1094.out).2.2);(case side2=>exact(Kd.R_reads' HO1094.out).2.1);rintro e w43 ⟨rfl,hb⟩;refine⟨_,rfl,?_⟩;replace HO_5:=Aside0.mk (Kd.R_below (Kd.Rz HO_5.out) hb);replace HO1090:=Aside0.mk (Kd.R_below (Kd.Rz HO1090.out) hb);replace HO1094:=Aside0.mk (Kd.R_below (Kd.Rz HO1094.out) hb);replace HO1098:=Aside0.mk (Kd.R_below (Kd.Rz HO1098.out) hb);replace HB:=Aside0.mk (below_step bz hb);(try clear hb);(try clear hb2);(try clear hk);(try clear hi);obtain⟨Ao44,co44,eo44⟩:=Kd.R_slice HO1098.out;subst eo44)|(go_at_call 13;(with_reducible refine(laws_sameInts.calls kj20 _ _ t1091 _ _ t1095 true _ ?side1 ?side2 ?side3 ?side4 A34.out).mono ?_);(case side1=>exact Kd.Cz (Kd.R_reads' HO1094.out).2.2);(case side2=>exact(Kd.R_reads' HO1094.out).2.1);(case side3=>exact Kd.Cz (Kd.R_reads' HO1098.out).2.2);(case side4=>exact(Kd.R_reads' HO1098.out).2.1);rintro e w' ⟨rfl,⟨nd,rfl⟩⟩))
                go_ret
                exact⟨by first|rfl|(simp[errW_none,errW_some]<;>rfl)|(simp[*,errW_none,errW_some]<;>rfl),bz⟩
               ·rw[if_neg c36] at H
                have c36b0:decide (t1099<0)=false:=decide_eq_false c36
                clear c36
                by_cases c45:t1101<0
                ·rw[if_pos c45] at H
                 have c45b0:decide (t1101<0)=true:=decide_eq_true c45
                 clear c45
                 obtain rfl:=Option.some.inj H
                 go_wp2_with (first|((with_reducible refine gate_callee (f:=40) rfl ?_);refine goesL_ (some 76) rfl rfl Try.func40 (by kernel_rfl) rfl #[.slice A1 l1.length c1] rfl az ?_;(with_reducible refine(spec_DrawStepsDown.calls kj20 _ _ l1 t1087 t1088 _ ?side1 ?side2 A26.out).mono ?_);(case side1=>exact Kd.Cz (Kd.C_below HR1.out HB.out));(case side2=>exact HC1.out);rintro e w46 ⟨v1089,rfl,ho0,hb⟩;refine⟨_,rfl,?_⟩;have HO1090:=Aside0.mk (Kd.R_lower (Kd.R_new' ho0 (Kd.R_lt (Kd.Rz HO_5.out))) (below_size bz));replace HO_5:=Aside0.mk (Kd.R_elder' (Kd.Rz HO_5.out) (Kd.R_base ho0) hb);replace HB:=Aside0.mk (below_step bz hb);(try clear hb);(try clear hb2);(try clear hk);(try clear hi);(try clear ho0);obtain⟨Ao47,co47,eo47⟩:=Kd.R_slice HO1090.out;subst eo47)|((with_reducible refine gate_callee (f:=43) rfl ?_);refine goesL_ (some 82) rfl rfl Try.func43 (by kernel_rfl) rfl #[.slice Ao11 t1077.length co11,.slice Ao47 t1087.length co47] rfl az ?_;(with_reducible refine(impl_OrdAdd.calls kj20 _ _ t1077 _ _ t1087 t1091 true _ ?side1 ?side2 ?side3 ?side4 A27.out).mono ?_);(case side1=>exact Kd.Cz (Kd.R_reads' HO_5.out).2.2);(case side2=>exact(Kd.R_reads' HO_5.out).2.1);(case side3=>exact Kd.Cz (Kd.R_reads' HO1090.out).2.2);(case side4=>exact(Kd.R_reads' HO1090.out).2.1);rintro e w48 ⟨v1093,rfl,ho0,hb⟩;refine⟨_,rfl,?_⟩;have HO1094:=Aside0.mk (Kd.R_lower (Kd.R_new' (Kd.R_new' ho0 (Kd.R_lt (Kd.Rz HO_5.out))) (Kd.R_lt (Kd.Rz HO1090.out))) (below_size bz));replace HO_5:=Aside0.mk (Kd.R_elder' (Kd.Rz HO_5.out) (Kd.R_base ho0) hb);replace HO1090:=Aside0.mk (Kd.R_elder' (Kd.Rz HO1090.out) (Kd.R_base ho0) hb);replace HB:=Aside0.mk (below_step bz hb);(try clear hb);(try clear hb2);(try clear hk);(try clear hi);(try clear ho0))|((with_reducible refine gate_callee (f:=44) rfl ?_);refine goesL_ (some 88) rfl rfl Try.func44 (by kernel_rfl) rfl #[.slice Ao11 t1077.length co11,.slice Ao47 t1087.length co47] rfl az ?_;(with_reducible refine(impl_OrdNatural.calls kj20 _ _ t1077 _ _ t1087 t1095 true _ ?side1 ?side2 ?side3 ?side4 A28.out).mono ?_);(case side1=>exact Kd.Cz (Kd.R_reads' HO_5.out).2.2);(case side2=>exact(Kd.R_reads' HO_5.out).2.1);(case side3=>exact Kd.Cz (Kd.R_reads' HO1090.out).2.2);(case side4=>exact(Kd.R_reads' HO1090.out).2.1);rintro e w49 ⟨v1097,rfl,ho0,hb⟩;refine⟨_,rfl,?_⟩;have HO1098:=Aside0.mk (Kd.R_lower (Kd.R_new' (Kd.R_new' (Kd.R_new' ho0 (Kd.R_lt (Kd.Rz HO_5.out))) (Kd.R_lt (Kd.Rz HO1090.out))) (Kd.R_lt (Kd.Rz HO1094.out))) (below_size bz));replace HO_5:=Aside0.mk (Kd.R_elder' (Kd.Rz HO_5.out) (Kd.R_base ho0) hb);replace HO1090:=Aside0.mk (Kd.R_elder' (Kd.Rz HO1090.out) (Kd.R_base ho0) hb);replace HO1094:=Aside0.mk (Kd.R_elder' (Kd.Rz HO1094.out) (Kd.R_base ho0) hb);replace HB:=Aside0.mk (below_step bz hb);(try clear hb);(try clear hb2);(try clear hk);(try clear hi);(try clear ho0))|((with_reducible refine gate_callee (f:=41) rfl ?_);refine goesL_ (some 94) rfl rfl Try.func41 (by kernel_rfl) rfl #[.slice Ao47 t1087.length co47,.int .i64 t1078] rfl az ?_;(with_reducible refine(impl_StepsDown.calls kj20 _ _ t1087 t1078 t1099 t1100 _ ?side1 ?side2 A29.out).mono ?_);(case side1=>exact Kd.Cz (Kd.R_reads' HO1090.out).2.2);(case side2=>exact(Kd.R_reads' HO1090.out).2.1);rintro e w50 ⟨rfl,hb⟩;refine⟨_,rfl,?_⟩;replace HO_5:=Aside0.mk (Kd.R_below (Kd.Rz HO_5.out) hb);replace HO1090:=Aside0.mk (Kd.R_below (Kd.Rz HO1090.out) hb);replace HO1094:=Aside0.mk (Kd.R_below (Kd.Rz HO1094.out) hb);replace HO1098:=Aside0.mk (Kd.R_below (Kd.Rz HO1098.out) hb);replace HB:=Aside0.mk (below_step bz hb);(try clear hb);(try clear hb2);(try clear hk);(try clear hi);obtain⟨Ao51,co51,eo51⟩:=Kd.R_slice HO1094.out;subst eo51)|((with_reducible refine gate_callee (f:=41) rfl ?_);refine goesL_ (some 100) rfl rfl Try.func41 (by kernel_rfl) rfl #[.slice Ao51 t1091.length co51,.int .i64 t1078] rfl az ?_;(with_reducible refine(impl_StepsDown.calls kj20 _ _ t1091 t1078 t1101 t1102 _ ?side1 ?side2 A30.out).mono ?_);(case side1=>exact Kd.Cz (Kd.R_reads' HO1094.out).2.2);(case side2=>exact(Kd.R_reads' HO1094.out).2.1);rintro e w52 ⟨rfl,hb⟩;refine⟨_,rfl,?_⟩;replace HO_5:=Aside0.mk (Kd.R_below (Kd.Rz HO_5.out) hb);replace HO1090:=Aside0.mk (Kd.R_below (Kd.Rz HO1090.out) hb);replace HO1094:=Aside0.mk (Kd.R_below (Kd.Rz HO1094.out) hb);replace HO1098:=Aside0.mk (Kd.R_below (Kd.Rz HO1098.out) hb);replace HB:=Aside0.mk (below_step bz hb);(try clear hb);(try clear hb2);(try clear hk);(try clear hi);obtain⟨Ao53,co53,eo53⟩:=Kd.R_slice HO1098.out;subst eo53)|(go_at_call 13;(with_reducible refine(laws_sameInts.calls kj20 _ _ t1091 _ _ t1095 true _ ?side1 ?side2 ?side3 ?side4 A34.out).mono ?_);(case side1=>exact Kd.Cz (Kd.R_reads' HO1094.out).2.2);(case side2=>exact(Kd.R_reads' HO1094.out).2.1);(case side3=>exact Kd.Cz (Kd.R_reads' HO1098.out).2.2);(case side4=>exact(Kd.R_reads' HO1098.out).2.1);rintro e w' ⟨rfl,⟨nd,rfl⟩⟩))
                 go_ret
                 exact⟨by first|rfl|(simp[errW_none,errW_some]<;>rfl)|(simp[*,errW_none,errW_some]<;>rfl),bz⟩
                ·rw[if_neg c45] at H
                 have c45b0:decide (t1101<0)=false:=decide_eq_false c45
                 clear c45
                 obtain rfl:=Option.some.inj H
                 go_wp2_with (first|((with_reducible refine gate_callee (f:=40) rfl ?_);refine goesL_ (some 76) rfl rfl Try.func40 (by kernel_rfl) rfl #[.slice A1 l1.length c1] rfl az ?_;(with_reducible refine(spec_DrawStepsDown.calls kj20 _ _ l1 t1087 t1088 _ ?side1 ?side2 A26.out).mono ?_);(case side1=>exact Kd.Cz (Kd.C_below HR1.out HB.out));(case side2=>exact HC1.out);rintro e w54 ⟨v1089,rfl,ho0,hb⟩;refine⟨_,rfl,?_⟩;have HO1090:=Aside0.mk (Kd.R_lower (Kd.R_new' ho0 (Kd.R_lt (Kd.Rz HO_5.out))) (below_size bz));replace HO_5:=Aside0.mk (Kd.R_elder' (Kd.Rz HO_5.out) (Kd.R_base ho0) hb);replace HB:=Aside0.mk (below_step bz hb);(try clear hb);(try clear hb2);(try clear hk);(try clear hi);(try clear ho0);obtain⟨Ao55,co55,eo55⟩:=Kd.R_slice HO1090.out;subst eo55)|((with_reducible refine gate_callee (f:=43) rfl ?_);refine goesL_ (some 82) rfl rfl Try.func43 (by kernel_rfl) rfl #[.slice Ao11 t1077.length co11,.slice Ao55 t1087.length co55] rfl az ?_;(with_reducible refine(impl_OrdAdd.calls kj20 _ _ t1077 _ _ t1087 t1091 true _ ?side1 ?side2 ?side3 ?side4 A27.out).mono ?_);(case side1=>exact Kd.Cz (Kd.R_reads' HO_5.out).2.2);(case side2=>exact(Kd.R_reads' HO_5.out).2.1);(case side3=>exact Kd.Cz (Kd.R_reads' HO1090.out).2.2);(case side4=>exact(Kd.R_reads' HO1090.out).2.1);rintro e w56 ⟨v1093,rfl,ho0,hb⟩;refine⟨_,rfl,?_⟩;have HO1094:=Aside0.mk (Kd.R_lower (Kd.R_new' (Kd.R_new' ho0 (Kd.R_lt (Kd.Rz HO_5.out))) (Kd.R_lt (Kd.Rz HO1090.out))) (below_size bz));replace HO_5:=Aside0.mk (Kd.R_elder' (Kd.Rz HO_5.out) (Kd.R_base ho0) hb);replace HO1090:=Aside0.mk (Kd.R_elder' (Kd.Rz HO1090.out) (Kd.R_base ho0) hb);replace HB:=Aside0.mk (below_step bz hb);(try clear hb);(try clear hb2);(try clear hk);(try clear hi);(try clear ho0))|((with_reducible refine gate_callee (f:=44) rfl ?_);refine goesL_ (some 88) rfl rfl Try.func44 (by kernel_rfl) rfl #[.slice Ao11 t1077.length co11,.slice Ao55 t1087.length co55] rfl az ?_;(with_reducible refine(impl_OrdNatural.calls kj20 _ _ t1077 _ _ t1087 t1095 true _ ?side1 ?side2 ?side3 ?side4 A28.out).mono ?_);(case side1=>exact Kd.Cz (Kd.R_reads' HO_5.out).2.2);(case side2=>exact(Kd.R_reads' HO_5.out).2.1);(case side3=>exact Kd.Cz (Kd.R_reads' HO1090.out).2.2);(case side4=>exact(Kd.R_reads' HO1090.out).2.1);rintro e w57 ⟨v1097,rfl,ho0,hb⟩;refine⟨_,rfl,?_⟩;have HO1098:=Aside0.mk (Kd.R_lower (Kd.R_new' (Kd.R_new' (Kd.R_new' ho0 (Kd.R_lt (Kd.Rz HO_5.out))) (Kd.R_lt (Kd.Rz HO1090.out))) (Kd.R_lt (Kd.Rz HO1094.out))) (below_size bz));replace HO_5:=Aside0.mk (Kd.R_elder' (Kd.Rz HO_5.out) (Kd.R_base ho0) hb);replace HO1090:=Aside0.mk (Kd.R_elder' (Kd.Rz HO1090.out) (Kd.R_base ho0) hb);replace HO1094:=Aside0.mk (Kd.R_elder' (Kd.Rz HO1094.out) (Kd.R_base ho0) hb);replace HB:=Aside0.mk (below_step bz hb);(try clear hb);(try clear hb2);(try clear hk);(try clear hi);(try clear ho0))|((with_reducible refine gate_callee (f:=41) rfl ?_);refine goesL_ (some 94) rfl rfl Try.func41 (by kernel_rfl) rfl #[.slice Ao55 t1087.length co55,.int .i64 t1078] rfl az ?_;(with_reducible refine(impl_StepsDown.calls kj20 _ _ t1087 t1078 t1099 t1100 _ ?side1 ?side2 A29.out).mono ?_);(case side1=>exact Kd.Cz (Kd.R_reads' HO1090.out).2.2);(case side2=>exact(Kd.R_reads' HO1090.out).2.1);rintro e w58 ⟨rfl,hb⟩;refine⟨_,rfl,?_⟩;replace HO_5:=Aside0.mk (Kd.R_below (Kd.Rz HO_5.out) hb);replace HO1090:=Aside0.mk (Kd.R_below (Kd.Rz HO1090.out) hb);replace HO1094:=Aside0.mk (Kd.R_below (Kd.Rz HO1094.out) hb);replace HO1098:=Aside0.mk (Kd.R_below (Kd.Rz HO1098.out) hb);replace HB:=Aside0.mk (below_step bz hb);(try clear hb);(try clear hb2);(try clear hk);(try clear hi);obtain⟨Ao59,co59,eo59⟩:=Kd.R_slice HO1094.out;subst eo59)|((with_reducible refine gate_callee (f:=41) rfl ?_);refine goesL_ (some 100) rfl rfl Try.func41 (by kernel_rfl) rfl #[.slice Ao59 t1091.length co59,.int .i64 t1078] rfl az ?_;(with_reducible refine(impl_StepsDown.calls kj20 _ _ t1091 t1078 t1101 t1102 _ ?side1 ?side2 A30.out).mono ?_);(case side1=>exact Kd.Cz (Kd.R_reads' HO1094.out).2.2);(case side2=>exact(Kd.R_reads' HO1094.out).2.1);rintro e w60 ⟨rfl,hb⟩;refine⟨_,rfl,?_⟩;replace HO_5:=Aside0.mk (Kd.R_below (Kd.Rz HO_5.out) hb);replace HO1090:=Aside0.mk (Kd.R_below (Kd.Rz HO1090.out) hb);replace HO1094:=Aside0.mk (Kd.R_below (Kd.Rz HO1094.out) hb);replace HO1098:=Aside0.mk (Kd.R_below (Kd.Rz HO1098.out) hb);replace HB:=Aside0.mk (below_step bz hb);(try clear hb);(try clear hb2);(try clear hk);(try clear hi);obtain⟨Ao61,co61,eo61⟩:=Kd.R_slice HO1098.out;subst eo61)|(go_at_call 13;(with_reducible refine(laws_sameInts.calls kj20 _ _ t1091 _ _ t1095 true _ ?side1 ?side2 ?side3 ?side4 A34.out).mono ?_);(case side1=>exact Kd.Cz (Kd.R_reads' HO1094.out).2.2);(case side2=>exact(Kd.R_reads' HO1094.out).2.1);(case side3=>exact Kd.Cz (Kd.R_reads' HO1098.out).2.2);(case side4=>exact(Kd.R_reads' HO1098.out).2.1);rintro e w' ⟨rfl,⟨nd,rfl⟩⟩))
                 go_ret
                 exact⟨by first|rfl|(simp[errW_none,errW_some]<;>rfl)|(simp[*,errW_none,errW_some]<;>rfl),bz⟩
              ·replace c35:=Bool.eq_false_iff.mpr c35
               subst c35
               have H1:(some true)=some r:=by rw[if_neg (show ¬ (false=true) by decide)] at H;exact H
               clear H
               have H:=H1
               clear H1
               obtain rfl:=Option.some.inj H
               go_wp2_with (first|((with_reducible refine gate_callee (f:=40) rfl ?_);refine goesL_ (some 76) rfl rfl Try.func40 (by kernel_rfl) rfl #[.slice A1 l1.length c1] rfl az ?_;(with_reducible refine(spec_DrawStepsDown.calls kj20 _ _ l1 t1087 t1088 _ ?side1 ?side2 A26.out).mono ?_);(case side1=>exact Kd.Cz (Kd.C_below HR1.out HB.out));(case side2=>exact HC1.out);rintro e w62 ⟨v1089,rfl,ho0,hb⟩;refine⟨_,rfl,?_⟩;have HO1090:=Aside0.mk (Kd.R_lower (Kd.R_new' ho0 (Kd.R_lt (Kd.Rz HO_5.out))) (below_size bz));replace HO_5:=Aside0.mk (Kd.R_elder' (Kd.Rz HO_5.out) (Kd.R_base ho0) hb);replace HB:=Aside0.mk (below_step bz hb);(try clear hb);(try clear hb2);(try clear hk);(try clear hi);(try clear ho0);obtain⟨Ao63,co63,eo63⟩:=Kd.R_slice HO1090.out;subst eo63)|((with_reducible refine gate_callee (f:=43) rfl ?_);refine goesL_ (some 82) rfl rfl Try.func43 (by kernel_rfl) rfl #[.slice Ao11 t1077.length co11,.slice Ao63 t1087.length co63] rfl az ?_;(with_reducible refine(impl_OrdAdd.calls kj20 _ _ t1077 _ _ t1087 t1091 true _ ?side1 ?side2 ?side3 ?side4 A27.out).mono ?_);(case side1=>exact Kd.Cz (Kd.R_reads' HO_5.out).2.2);(case side2=>exact(Kd.R_reads' HO_5.out).2.1);(case side3=>exact Kd.Cz (Kd.R_reads' HO1090.out).2.2);(case side4=>exact(Kd.R_reads' HO1090.out).2.1);rintro e w64 ⟨v1093,rfl,ho0,hb⟩;refine⟨_,rfl,?_⟩;have HO1094:=Aside0.mk (Kd.R_lower (Kd.R_new' (Kd.R_new' ho0 (Kd.R_lt (Kd.Rz HO_5.out))) (Kd.R_lt (Kd.Rz HO1090.out))) (below_size bz));replace HO_5:=Aside0.mk (Kd.R_elder' (Kd.Rz HO_5.out) (Kd.R_base ho0) hb);replace HO1090:=Aside0.mk (Kd.R_elder' (Kd.Rz HO1090.out) (Kd.R_base ho0) hb);replace HB:=Aside0.mk (below_step bz hb);(try clear hb);(try clear hb2);(try clear hk);(try clear hi);(try clear ho0))|((with_reducible refine gate_callee (f:=44) rfl ?_);refine goesL_ (some 88) rfl rfl Try.func44 (by kernel_rfl) rfl #[.slice Ao11 t1077.length co11,.slice Ao63 t1087.length co63] rfl az ?_;(with_reducible refine(impl_OrdNatural.calls kj20 _ _ t1077 _ _ t1087 t1095 true _ ?side1 ?side2 ?side3 ?side4 A28.out).mono ?_);(case side1=>exact Kd.Cz (Kd.R_reads' HO_5.out).2.2);(case side2=>exact(Kd.R_reads' HO_5.out).2.1);(case side3=>exact Kd.Cz (Kd.R_reads' HO1090.out).2.2);(case side4=>exact(Kd.R_reads' HO1090.out).2.1);rintro e w65 ⟨v1097,rfl,ho0,hb⟩;refine⟨_,rfl,?_⟩;have HO1098:=Aside0.mk (Kd.R_lower (Kd.R_new' (Kd.R_new' (Kd.R_new' ho0 (Kd.R_lt (Kd.Rz HO_5.out))) (Kd.R_lt (Kd.Rz HO1090.out))) (Kd.R_lt (Kd.Rz HO1094.out))) (below_size bz));replace HO_5:=Aside0.mk (Kd.R_elder' (Kd.Rz HO_5.out) (Kd.R_base ho0) hb);replace HO1090:=Aside0.mk (Kd.R_elder' (Kd.Rz HO1090.out) (Kd.R_base ho0) hb);replace HO1094:=Aside0.mk (Kd.R_elder' (Kd.Rz HO1094.out) (Kd.R_base ho0) hb);replace HB:=Aside0.mk (below_step bz hb);(try clear hb);(try clear hb2);(try clear hk);(try clear hi);(try clear ho0))|((with_reducible refine gate_callee (f:=41) rfl ?_);refine goesL_ (some 94) rfl rfl Try.func41 (by kernel_rfl) rfl #[.slice Ao63 t1087.length co63,.int .i64 t1078] rfl az ?_;(with_reducible refine(impl_StepsDown.calls kj20 _ _ t1087 t1078 t1099 t1100 _ ?side1 ?side2 A29.out).mono ?_);(case side1=>exact Kd.Cz (Kd.R_reads' HO1090.out).2.2);(case side2=>exact(Kd.R_reads' HO1090.out).2.1);rintro e w66 ⟨rfl,hb⟩;refine⟨_,rfl,?_⟩;replace HO_5:=Aside0.mk (Kd.R_below (Kd.Rz HO_5.out) hb);replace HO1090:=Aside0.mk (Kd.R_below (Kd.Rz HO1090.out) hb);replace HO1094:=Aside0.mk (Kd.R_below (Kd.Rz HO1094.out) hb);replace HO1098:=Aside0.mk (Kd.R_below (Kd.Rz HO1098.out) hb);replace HB:=Aside0.mk (below_step bz hb);(try clear hb);(try clear hb2);(try clear hk);(try clear hi);obtain⟨Ao67,co67,eo67⟩:=Kd.R_slice HO1094.out;subst eo67)|((with_reducible refine gate_callee (f:=41) rfl ?_);refine goesL_ (some 100) rfl rfl Try.func41 (by kernel_rfl) rfl #[.slice Ao67 t1091.length co67,.int .i64 t1078] rfl az ?_;(with_reducible refine(impl_StepsDown.calls kj20 _ _ t1091 t1078 t1101 t1102 _ ?side1 ?side2 A30.out).mono ?_);(case side1=>exact Kd.Cz (Kd.R_reads' HO1094.out).2.2);(case side2=>exact(Kd.R_reads' HO1094.out).2.1);rintro e w68 ⟨rfl,hb⟩;refine⟨_,rfl,?_⟩;replace HO_5:=Aside0.mk (Kd.R_below (Kd.Rz HO_5.out) hb);replace HO1090:=Aside0.mk (Kd.R_below (Kd.Rz HO1090.out) hb);replace HO1094:=Aside0.mk (Kd.R_below (Kd.Rz HO1094.out) hb);replace HO1098:=Aside0.mk (Kd.R_below (Kd.Rz HO1098.out) hb);replace HB:=Aside0.mk (below_step bz hb);(try clear hb);(try clear hb2);(try clear hk);(try clear hi);obtain⟨Ao69,co69,eo69⟩:=Kd.R_slice HO1098.out;subst eo69)|(go_at_call 13;(with_reducible refine(laws_sameInts.calls kj20 _ _ t1091 _ _ t1095 false _ ?side1 ?side2 ?side3 ?side4 A34.out).mono ?_);(case side1=>exact Kd.Cz (Kd.R_reads' HO1094.out).2.2);(case side2=>exact(Kd.R_reads' HO1094.out).2.1);(case side3=>exact Kd.Cz (Kd.R_reads' HO1098.out).2.2);(case side4=>exact(Kd.R_reads' HO1098.out).2.1);rintro e w' ⟨rfl,⟨nd,rfl⟩⟩))
               go_ret
               exact⟨by first|rfl|(simp[errW_none,errW_some]<;>rfl)|(simp[*,errW_none,errW_some]<;>rfl),bz⟩
             ·replace c33:=Bool.eq_false_iff.mpr c33
              subst c33
              have H1:(some true)=some r:=by rw[if_neg (show ¬ (false=true) by decide)] at H;exact H
              clear H
              have H:=H1
              clear H1
              obtain rfl:=Option.some.inj H
              go_wp2_with (first|((with_reducible refine gate_callee (f:=40) rfl ?_);refine goesL_ (some 76) rfl rfl Try.func40 (by kernel_rfl) rfl #[.slice A1 l1.length c1] rfl az ?_;(with_reducible refine(spec_DrawStepsDown.calls kj20 _ _ l1 t1087 t1088 _ ?side1 ?side2 A26.out).mono ?_);(case side1=>exact Kd.Cz (Kd.C_below HR1.out HB.out));(case side2=>exact HC1.out);rintro e w70 ⟨v1089,rfl,ho0,hb⟩;refine⟨_,rfl,?_⟩;have HO1090:=Aside0.mk (Kd.R_lower (Kd.R_new' ho0 (Kd.R_lt (Kd.Rz HO_5.out))) (below_size bz));replace HO_5:=Aside0.mk (Kd.R_elder' (Kd.Rz HO_5.out) (Kd.R_base ho0) hb);replace HB:=Aside0.mk (below_step bz hb);(try clear hb);(try clear hb2);(try clear hk);(try clear hi);(try clear ho0);obtain⟨Ao71,co71,eo71⟩:=Kd.R_slice HO1090.out;subst eo71)|((with_reducible refine gate_callee (f:=43) rfl ?_);refine goesL_ (some 82) rfl rfl Try.func43 (by kernel_rfl) rfl #[.slice Ao11 t1077.length co11,.slice Ao71 t1087.length co71] rfl az ?_;(with_reducible refine(impl_OrdAdd.calls kj20 _ _ t1077 _ _ t1087 t1091 true _ ?side1 ?side2 ?side3 ?side4 A27.out).mono ?_);(case side1=>exact Kd.Cz (Kd.R_reads' HO_5.out).2.2);(case side2=>exact(Kd.R_reads' HO_5.out).2.1);(case side3=>exact Kd.Cz (Kd.R_reads' HO1090.out).2.2);(case side4=>exact(Kd.R_reads' HO1090.out).2.1);rintro e w72 ⟨v1093,rfl,ho0,hb⟩;refine⟨_,rfl,?_⟩;have HO1094:=Aside0.mk (Kd.R_lower (Kd.R_new' (Kd.R_new' ho0 (Kd.R_lt (Kd.Rz HO_5.out))) (Kd.R_lt (Kd.Rz HO1090.out))) (below_size bz));replace HO_5:=Aside0.mk (Kd.R_elder' (Kd.Rz HO_5.out) (Kd.R_base ho0) hb);replace HO1090:=Aside0.mk (Kd.R_elder' (Kd.Rz HO1090.out) (Kd.R_base ho0) hb);replace HB:=Aside0.mk (below_step bz hb);(try clear hb);(try clear hb2);(try clear hk);(try clear hi);(try clear ho0))|((with_reducible refine gate_callee (f:=44) rfl ?_);refine goesL_ (some 88) rfl rfl Try.func44 (by kernel_rfl) rfl #[.slice Ao11 t1077.length co11,.slice Ao71 t1087.length co71] rfl az ?_;(with_reducible refine(impl_OrdNatural.calls kj20 _ _ t1077 _ _ t1087 t1095 false _ ?side1 ?side2 ?side3 ?side4 A28.out).mono ?_);(case side1=>exact Kd.Cz (Kd.R_reads' HO_5.out).2.2);(case side2=>exact(Kd.R_reads' HO_5.out).2.1);(case side3=>exact Kd.Cz (Kd.R_reads' HO1090.out).2.2);(case side4=>exact(Kd.R_reads' HO1090.out).2.1);rintro e w73 ⟨v1097,rfl,ho0,hb⟩;refine⟨_,rfl,?_⟩;have HO1098:=Aside0.mk (Kd.R_lower (Kd.R_new' (Kd.R_new' (Kd.R_new' ho0 (Kd.R_lt (Kd.Rz HO_5.out))) (Kd.R_lt (Kd.Rz HO1090.out))) (Kd.R_lt (Kd.Rz HO1094.out))) (below_size bz));replace HO_5:=Aside0.mk (Kd.R_elder' (Kd.Rz HO_5.out) (Kd.R_base ho0) hb);replace HO1090:=Aside0.mk (Kd.R_elder' (Kd.Rz HO1090.out) (Kd.R_base ho0) hb);replace HO1094:=Aside0.mk (Kd.R_elder' (Kd.Rz HO1094.out) (Kd.R_base ho0) hb);replace HB:=Aside0.mk (below_step bz hb);(try clear hb);(try clear hb2);(try clear hk);(try clear hi);(try clear ho0))|((with_reducible refine gate_callee (f:=41) rfl ?_);refine goesL_ (some 94) rfl rfl Try.func41 (by kernel_rfl) rfl #[.slice Ao71 t1087.length co71,.int .i64 t1078] rfl az ?_;(with_reducible refine(impl_StepsDown.calls kj20 _ _ t1087 t1078 t1099 t1100 _ ?side1 ?side2 A29.out).mono ?_);(case side1=>exact Kd.Cz (Kd.R_reads' HO1090.out).2.2);(case side2=>exact(Kd.R_reads' HO1090.out).2.1);rintro e w74 ⟨rfl,hb⟩;refine⟨_,rfl,?_⟩;replace HO_5:=Aside0.mk (Kd.R_below (Kd.Rz HO_5.out) hb);replace HO1090:=Aside0.mk (Kd.R_below (Kd.Rz HO1090.out) hb);replace HO1094:=Aside0.mk (Kd.R_below (Kd.Rz HO1094.out) hb);replace HO1098:=Aside0.mk (Kd.R_below (Kd.Rz HO1098.out) hb);replace HB:=Aside0.mk (below_step bz hb);(try clear hb);(try clear hb2);(try clear hk);(try clear hi);obtain⟨Ao75,co75,eo75⟩:=Kd.R_slice HO1094.out;subst eo75)|((with_reducible refine gate_callee (f:=41) rfl ?_);refine goesL_ (some 100) rfl rfl Try.func41 (by kernel_rfl) rfl #[.slice Ao75 t1091.length co75,.int .i64 t1078] rfl az ?_;(with_reducible refine(impl_StepsDown.calls kj20 _ _ t1091 t1078 t1101 t1102 _ ?side1 ?side2 A30.out).mono ?_);(case side1=>exact Kd.Cz (Kd.R_reads' HO1094.out).2.2);(case side2=>exact(Kd.R_reads' HO1094.out).2.1);rintro e w76 ⟨rfl,hb⟩;refine⟨_,rfl,?_⟩;replace HO_5:=Aside0.mk (Kd.R_below (Kd.Rz HO_5.out) hb);replace HO1090:=Aside0.mk (Kd.R_below (Kd.Rz HO1090.out) hb);replace HO1094:=Aside0.mk (Kd.R_below (Kd.Rz HO1094.out) hb);replace HO1098:=Aside0.mk (Kd.R_below (Kd.Rz HO1098.out) hb);replace HB:=Aside0.mk (below_step bz hb);(try clear hb);(try clear hb2);(try clear hk);(try clear hi)))
              go_ret
              exact⟨by first|rfl|(simp[errW_none,errW_some]<;>rfl)|(simp[*,errW_none,errW_some]<;>rfl),bz⟩
            ·replace c32:=Bool.eq_false_iff.mpr c32
             subst c32
             have H1:(some true)=some r:=by rw[if_neg (show ¬ (false=true) by decide)] at H;exact H
             clear H
             have H:=H1
             clear H1
             obtain rfl:=Option.some.inj H
             go_wp2_with (first|((with_reducible refine gate_callee (f:=40) rfl ?_);refine goesL_ (some 76) rfl rfl Try.func40 (by kernel_rfl) rfl #[.slice A1 l1.length c1] rfl az ?_;(with_reducible refine(spec_DrawStepsDown.calls kj20 _ _ l1 t1087 t1088 _ ?side1 ?side2 A26.out).mono ?_);(case side1=>exact Kd.Cz (Kd.C_below HR1.out HB.out));(case side2=>exact HC1.out);rintro e w77 ⟨v1089,rfl,ho0,hb⟩;refine⟨_,rfl,?_⟩;have HO1090:=Aside0.mk (Kd.R_lower (Kd.R_new' ho0 (Kd.R_lt (Kd.Rz HO_5.out))) (below_size bz));replace HO_5:=Aside0.mk (Kd.R_elder' (Kd.Rz HO_5.out) (Kd.R_base ho0) hb);replace HB:=Aside0.mk (below_step bz hb);(try clear hb);(try clear hb2);(try clear hk);(try clear hi);(try clear ho0);obtain⟨Ao78,co78,eo78⟩:=Kd.R_slice HO1090.out;subst eo78)|((with_reducible refine gate_callee (f:=43) rfl ?_);refine goesL_ (some 82) rfl rfl Try.func43 (by kernel_rfl) rfl #[.slice Ao11 t1077.length co11,.slice Ao78 t1087.length co78] rfl az ?_;(with_reducible refine(impl_OrdAdd.calls kj20 _ _ t1077 _ _ t1087 t1091 false _ ?side1 ?side2 ?side3 ?side4 A27.out).mono ?_);(case side1=>exact Kd.Cz (Kd.R_reads' HO_5.out).2.2);(case side2=>exact(Kd.R_reads' HO_5.out).2.1);(case side3=>exact Kd.Cz (Kd.R_reads' HO1090.out).2.2);(case side4=>exact(Kd.R_reads' HO1090.out).2.1);rintro e w79 ⟨v1093,rfl,ho0,hb⟩;refine⟨_,rfl,?_⟩;have HO1094:=Aside0.mk (Kd.R_lower (Kd.R_new' (Kd.R_new' ho0 (Kd.R_lt (Kd.Rz HO_5.out))) (Kd.R_lt (Kd.Rz HO1090.out))) (below_size bz));replace HO_5:=Aside0.mk (Kd.R_elder' (Kd.Rz HO_5.out) (Kd.R_base ho0) hb);replace HO1090:=Aside0.mk (Kd.R_elder' (Kd.Rz HO1090.out) (Kd.R_base ho0) hb);replace HB:=Aside0.mk (below_step bz hb);(try clear hb);(try clear hb2);(try clear hk);(try clear hi);(try clear ho0))|((with_reducible refine gate_callee (f:=44) rfl ?_);refine goesL_ (some 88) rfl rfl Try.func44 (by kernel_rfl) rfl #[.slice Ao11 t1077.length co11,.slice Ao78 t1087.length co78] rfl az ?_;(with_reducible refine(impl_OrdNatural.calls kj20 _ _ t1077 _ _ t1087 t1095 t1096 _ ?side1 ?side2 ?side3 ?side4 A28.out).mono ?_);(case side1=>exact Kd.Cz (Kd.R_reads' HO_5.out).2.2);(case side2=>exact(Kd.R_reads' HO_5.out).2.1);(case side3=>exact Kd.Cz (Kd.R_reads' HO1090.out).2.2);(case side4=>exact(Kd.R_reads' HO1090.out).2.1);rintro e w80 ⟨v1097,rfl,ho0,hb⟩;refine⟨_,rfl,?_⟩;have HO1098:=Aside0.mk (Kd.R_lower (Kd.R_new' (Kd.R_new' (Kd.R_new' ho0 (Kd.R_lt (Kd.Rz HO_5.out))) (Kd.R_lt (Kd.Rz HO1090.out))) (Kd.R_lt (Kd.Rz HO1094.out))) (below_size bz));replace HO_5:=Aside0.mk (Kd.R_elder' (Kd.Rz HO_5.out) (Kd.R_base ho0) hb);replace HO1090:=Aside0.mk (Kd.R_elder' (Kd.Rz HO1090.out) (Kd.R_base ho0) hb);replace HO1094:=Aside0.mk (Kd.R_elder' (Kd.Rz HO1094.out) (Kd.R_base ho0) hb);replace HB:=Aside0.mk (below_step bz hb);(try clear hb);(try clear hb2);(try clear hk);(try clear hi);(try clear ho0))|((with_reducible refine gate_callee (f:=41) rfl ?_);refine goesL_ (some 94) rfl rfl Try.func41 (by kernel_rfl) rfl #[.slice Ao78 t1087.length co78,.int .i64 t1078] rfl az ?_;(with_reducible refine(impl_StepsDown.calls kj20 _ _ t1087 t1078 t1099 t1100 _ ?side1 ?side2 A29.out).mono ?_);(case side1=>exact Kd.Cz (Kd.R_reads' HO1090.out).2.2);(case side2=>exact(Kd.R_reads' HO1090.out).2.1);rintro e w81 ⟨rfl,hb⟩;refine⟨_,rfl,?_⟩;replace HO_5:=Aside0.mk (Kd.R_below (Kd.Rz HO_5.out) hb);replace HO1090:=Aside0.mk (Kd.R_below (Kd.Rz HO1090.out) hb);replace HO1094:=Aside0.mk (Kd.R_below (Kd.Rz HO1094.out) hb);replace HO1098:=Aside0.mk (Kd.R_below (Kd.Rz HO1098.out) hb);replace HB:=Aside0.mk (below_step bz hb);(try clear hb);(try clear hb2);(try clear hk);(try clear hi);obtain⟨Ao82,co82,eo82⟩:=Kd.R_slice HO1094.out;subst eo82)|((with_reducible refine gate_callee (f:=41) rfl ?_);refine goesL_ (some 100) rfl rfl Try.func41 (by kernel_rfl) rfl #[.slice Ao82 t1091.length co82,.int .i64 t1078] rfl az ?_;(with_reducible refine(impl_StepsDown.calls kj20 _ _ t1091 t1078 t1101 t1102 _ ?side1 ?side2 A30.out).mono ?_);(case side1=>exact Kd.Cz (Kd.R_reads' HO1094.out).2.2);(case side2=>exact(Kd.R_reads' HO1094.out).2.1);rintro e w83 ⟨rfl,hb⟩;refine⟨_,rfl,?_⟩;replace HO_5:=Aside0.mk (Kd.R_below (Kd.Rz HO_5.out) hb);replace HO1090:=Aside0.mk (Kd.R_below (Kd.Rz HO1090.out) hb);replace HO1094:=Aside0.mk (Kd.R_below (Kd.Rz HO1094.out) hb);replace HO1098:=Aside0.mk (Kd.R_below (Kd.Rz HO1098.out) hb);replace HB:=Aside0.mk (below_step bz hb);(try clear hb);(try clear hb2);(try clear hk);(try clear hi)))
             go_ret
             exact⟨by first|rfl|(simp[errW_none,errW_some]<;>rfl)|(simp[*,errW_none,errW_some]<;>rfl),bz⟩
           ·rw[if_neg c31] at H
            have c31b0:decide (t1082≤t1081)=false:=decide_eq_false c31
            clear c31
            obtain rfl:=Option.some.inj H
            go_wp2_with (first|((with_reducible refine gate_callee (f:=40) rfl ?_);refine goesL_ (some 76) rfl rfl Try.func40 (by kernel_rfl) rfl #[.slice A1 l1.length c1] rfl az ?_;(with_reducible refine(spec_DrawStepsDown.calls kj20 _ _ l1 t1087 t1088 _ ?side1 ?side2 A26.out).mono ?_);(case side1=>exact Kd.Cz (Kd.C_below HR1.out HB.out));(case side2=>exact HC1.out);rintro e w84 ⟨v1089,rfl,ho0,hb⟩;refine⟨_,rfl,?_⟩;have HO1090:=Aside0.mk (Kd.R_lower (Kd.R_new' ho0 (Kd.R_lt (Kd.Rz HO_5.out))) (below_size bz));replace HO_5:=Aside0.mk (Kd.R_elder' (Kd.Rz HO_5.out) (Kd.R_base ho0) hb);replace HB:=Aside0.mk (below_step bz hb);(try clear hb);(try clear hb2);(try clear hk);(try clear hi);(try clear ho0);obtain⟨Ao85,co85,eo85⟩:=Kd.R_slice HO1090.out;subst eo85)|((with_reducible refine gate_callee (f:=43) rfl ?_);refine goesL_ (some 82) rfl rfl Try.func43 (by kernel_rfl) rfl #[.slice Ao11 t1077.length co11,.slice Ao85 t1087.length co85] rfl az ?_;(with_reducible refine(impl_OrdAdd.calls kj20 _ _ t1077 _ _ t1087 t1091 t1092 _ ?side1 ?side2 ?side3 ?side4 A27.out).mono ?_);(case side1=>exact Kd.Cz (Kd.R_reads' HO_5.out).2.2);(case side2=>exact(Kd.R_reads' HO_5.out).2.1);(case side3=>exact Kd.Cz (Kd.R_reads' HO1090.out).2.2);(case side4=>exact(Kd.R_reads' HO1090.out).2.1);rintro e w86 ⟨v1093,rfl,ho0,hb⟩;refine⟨_,rfl,?_⟩;have HO1094:=Aside0.mk (Kd.R_lower (Kd.R_new' (Kd.R_new' ho0 (Kd.R_lt (Kd.Rz HO_5.out))) (Kd.R_lt (Kd.Rz HO1090.out))) (below_size bz));replace HO_5:=Aside0.mk (Kd.R_elder' (Kd.Rz HO_5.out) (Kd.R_base ho0) hb);replace HO1090:=Aside0.mk (Kd.R_elder' (Kd.Rz HO1090.out) (Kd.R_base ho0) hb);replace HB:=Aside0.mk (below_step bz hb);(try clear hb);(try clear hb2);(try clear hk);(try clear hi);(try clear ho0))|((with_reducible refine gate_callee (f:=44) rfl ?_);refine goesL_ (some 88) rfl rfl Try.func44 (by kernel_rfl) rfl #[.slice Ao11 t1077.length co11,.slice Ao85 t1087.length co85] rfl az ?_;(with_reducible refine(impl_OrdNatural.calls kj20 _ _ t1077 _ _ t1087 t1095 t1096 _ ?side1 ?side2 ?side3 ?side4 A28.out).mono ?_);(case side1=>exact Kd.Cz (Kd.R_reads' HO_5.out).2.2);(case side2=>exact(Kd.R_reads' HO_5.out).2.1);(case side3=>exact Kd.Cz (Kd.R_reads' HO1090.out).2.2);(case side4=>exact(Kd.R_reads' HO1090.out).2.1);rintro e w87 ⟨v1097,rfl,ho0,hb⟩;refine⟨_,rfl,?_⟩;have HO1098:=Aside0.mk (Kd.R_lower (Kd.R_new' (Kd.R_new' (Kd.R_new' ho0 (Kd.R_lt (Kd.Rz HO_5.out))) (Kd.R_lt (Kd.Rz HO1090.out))) (Kd.R_lt (Kd.Rz HO1094.out))) (below_size bz));replace HO_5:=Aside0.mk (Kd.R_elder' (Kd.Rz HO_5.out) (Kd.R_base ho0) hb);replace HO1090:=Aside0.mk (Kd.R_elder' (Kd.Rz HO1090.out) (Kd.R_base ho0) hb);replace HO1094:=Aside0.mk (Kd.R_elder' (Kd.Rz HO1094.out) (Kd.R_base ho0) hb);replace HB:=Aside0.mk (below_step bz hb);(try clear hb);(try clear hb2);(try clear hk);(try clear hi);(try clear ho0))|((with_reducible refine gate_callee (f:=41) rfl ?_);refine goesL_ (some 94) rfl rfl Try.func41 (by kernel_rfl) rfl #[.slice Ao85 t1087.length co85,.int .i64 t1078] rfl az ?_;(with_reducible refine(impl_StepsDown.calls kj20 _ _ t1087 t1078 t1099 t1100 _ ?side1 ?side2 A29.out).mono ?_);(case side1=>exact Kd.Cz (Kd.R_reads' HO1090.out).2.2);(case side2=>exact(Kd.R_reads' HO1090.out).2.1);rintro e w88 ⟨rfl,hb⟩;refine⟨_,rfl,?_⟩;replace HO_5:=Aside0.mk (Kd.R_below (Kd.Rz HO_5.out) hb);replace HO1090:=Aside0.mk (Kd.R_below (Kd.Rz HO1090.out) hb);replace HO1094:=Aside0.mk (Kd.R_below (Kd.Rz HO1094.out) hb);replace HO1098:=Aside0.mk (Kd.R_below (Kd.Rz HO1098.out) hb);replace HB:=Aside0.mk (below_step bz hb);(try clear hb);(try clear hb2);(try clear hk);(try clear hi);obtain⟨Ao89,co89,eo89⟩:=Kd.R_slice HO1094.out;subst eo89)|((with_reducible refine gate_callee (f:=41) rfl ?_);refine goesL_ (some 100) rfl rfl Try.func41 (by kernel_rfl) rfl #[.slice Ao89 t1091.length co89,.int .i64 t1078] rfl az ?_;(with_reducible refine(impl_StepsDown.calls kj20 _ _ t1091 t1078 t1101 t1102 _ ?side1 ?side2 A30.out).mono ?_);(case side1=>exact Kd.Cz (Kd.R_reads' HO1094.out).2.2);(case side2=>exact(Kd.R_reads' HO1094.out).2.1);rintro e w90 ⟨rfl,hb⟩;refine⟨_,rfl,?_⟩;replace HO_5:=Aside0.mk (Kd.R_below (Kd.Rz HO_5.out) hb);replace HO1090:=Aside0.mk (Kd.R_below (Kd.Rz HO1090.out) hb);replace HO1094:=Aside0.mk (Kd.R_below (Kd.Rz HO1094.out) hb);replace HO1098:=Aside0.mk (Kd.R_below (Kd.Rz HO1098.out) hb);replace HB:=Aside0.mk (below_step bz hb);(try clear hb);(try clear hb2);(try clear hk);(try clear hi)))
            go_ret
            exact⟨by first|rfl|(simp[errW_none,errW_some]<;>rfl)|(simp[*,errW_none,errW_some]<;>rfl),bz⟩
/-- THE ONE PURE STATEMENT of laws_FnStepsDown: yours. -/
def laws_FnStepsDown.Pure:Prop:=∀ (l0:List Int) (l1:List Int),l0.length≤maxLen→l0.length*1≤140737488351232→(∀ x ∈ l0,(Lit.int .u8 x).wf=true)→l1.length≤maxLen→l1.length*1≤140737488351232→(∀ x ∈ l1,(Lit.int .u8 x).wf=true)→∃ k,laws_FnStepsDown.f k l0 l1=some true
theorem laws_FnStepsDown.walk (P:laws_FnStepsDown.Pure)(a0:Option Addr)(len0 cap0:Nat)(z0:List Int)(a1:Option Addr)(len1 cap1:Nat)(z1:List Int)(w:World)(w0:(a0=none∧len0=0∧cap0=0∧z0=[])∨∃ x,a0=some x∧len0≤cap0∧cap0≤maxLen∧z0.length=cap0∧(∀ i,i<z0.length→w.cell? (x.add i)=some (.int .u8 (z0.getD i 0)))∧∀ n ∈ z0,(Lit.int .u8 n).wf=true)(y0:len0*1≤140737488351232)(w1:(a1=none∧len1=0∧cap1=0∧z1=[])∨∃ x,a1=some x∧len1≤cap1∧cap1≤maxLen∧z1.length=cap1∧(∀ i,i<z1.length→w.cell? (x.add i)=some (.int .u8 (z1.getD i 0)))∧∀ n ∈ z1,(Lit.int .u8 n).wf=true)(y1:len1*1≤140737488351232) :
  Calls Try.prog 10 #[.slice a0 len0 cap0,.slice a1 len1 cap1] w fun e w'=>e=.returned (.bool true)∧Below w.heap.size w w':=by
 obtain⟨l0,rfl,hr0,hm0,hw0,hc0⟩:=ReadsInt.ofRowC w0
 obtain⟨l1,rfl,hr1,hm1,hw1,hc1⟩:=ReadsInt.ofRowC w1
 obtain⟨k,h⟩:=P l0 l1 hm0 y0 hw0 hm1 y1 hw1
 refine(laws_FnStepsDown.calls k _ _ l0 _ _ l1 true w (Kd.C_of_reads (d:=(0:Int)) (h1:=fun _=>rfl) hr0) hc0 (Kd.C_of_reads (d:=(0:Int)) (h1:=fun _=>rfl) hr1) hc1 h).mono ?_
 rintro e w' ⟨rfl,hd⟩
 exact⟨rfl,hd⟩
end Go.Proofs.Ytpgkpahhohfmhaa.P