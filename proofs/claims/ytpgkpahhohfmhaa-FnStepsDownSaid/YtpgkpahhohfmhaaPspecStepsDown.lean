/- One Go function comes to what its Lean function tells. -/
import Derived.Test.YtpgkpahhohfmhaaP0
import Derived.Test.YtpgkpahhohfmhaaPspecOrdKind
import Derived.Test.YtpgkpahhohfmhaaPspecOrdStep
import Derived.Test.YtpgkpahhohfmhaaPspecOrdValid
import Derived.Test.YtpgkpahhohfmhaaPspecl1In
namespace Go.Proofs.Ytpgkpahhohfmhaa.P
open Go.RowKit YtpgkpahhohfmhaaW.PrintWords YtpgkpahhohfmhaaW.PrintLast YtpgkpahhohfmhaaW.PrintMore
set_option linter.unusedVariables false
set_option linter.unusedSimpArgs false
/-! ### spec_StepsDown: function 42 -/
mutual
def spec_StepsDown.j0:Nat→List Int→Int→Bool→Option (Int × Int)
 | 0,_,_,_=>none
 | k+1,x0,x1,x17=>if x17=true then(some ((-1),(-1))) else(spec_StepsDown.l0 k x0 x1 0 0)
def spec_StepsDown.l0:Nat→List Int→Int→Int→Int→Option (Int × Int)
 | 0,_,_,_,_=>none
 | k+1,x0,x1,x6,x7=>if x7≤3000 then(if(x0.length:Int)=1 then(some (x7,x6)) else((spec_OrdKind.f k x0).bind fun t964=>(if t964=1 then((spec_OrdStep.f k x0 x1).bind fun bt965=>(if bt965.2=true then(spec_StepsDown.l0 k bt965.1 x1 (wrap64 (x6+1)) (wrap64 (x7+1))) else(some ((-1),(-1))))) else((spec_OrdStep.f k x0 x1).bind fun bt969=>(if bt969.2=true then(spec_StepsDown.l0 k bt969.1 x1 x6 (wrap64 (x7+1))) else(some ((-1),(-1)))))))) else(some ((-1),(-1)))
end
def spec_StepsDown.f (k:Nat)(l0:List Int)(a1:Int):Option (Int × Int):=(spec_OrdValid.f k l0).bind fun t962=>(if t962=true then((spec_l1In.f a1 0 99).bind fun t963=>(spec_StepsDown.j0 k l0 a1 (!t963))) else(spec_StepsDown.j0 k l0 a1 true))
theorem spec_StepsDown.mono_l:∀ k,(∀ y0 y1 y2,LeO (spec_StepsDown.j0 k y0 y1 y2) (spec_StepsDown.j0 (k+1) y0 y1 y2))∧(∀ y0 y1 y2 y3,LeO (spec_StepsDown.l0 k y0 y1 y2 y3) (spec_StepsDown.l0 (k+1) y0 y1 y2 y3))
 | 0=>⟨fun _ _ _ r h=>by simp[spec_StepsDown.j0] at h,fun _ _ _ _ r h=>by simp[spec_StepsDown.l0] at h⟩
 | k+1=>by
  obtain⟨ih0,ih1⟩:=spec_StepsDown.mono_l k
  refine⟨?_,?_⟩
  ·intro y0 y1 y2
   unfold spec_StepsDown.j0
   repeat' first|(with_reducible first|exact ih0 _ _ _|exact ih1 _ _ _ _|exact LeO.refl _|exact LeO.none _|refine LeO.ite ?_ ?_|refine LeO.bind ?_ (fun _=>?_))|exact ih0 _ _ _|exact ih1 _ _ _ _|exact LeO.none _|refine LeO.ite ?_ ?_|refine LeO.bind ?_ (fun _=>?_)
  ·intro y0 y1 y2 y3
   unfold spec_StepsDown.l0
   repeat' first|(with_reducible first|exact ih1 _ _ _ _|exact spec_OrdKind.mono _ _|exact spec_OrdStep.mono _ _ _|exact LeO.refl _|exact LeO.none _|refine LeO.ite ?_ ?_|refine LeO.bind ?_ (fun _=>?_))|exact ih1 _ _ _ _|exact spec_OrdKind.mono _ _|exact spec_OrdStep.mono _ _ _|exact LeO.none _|refine LeO.ite ?_ ?_|refine LeO.bind ?_ (fun _=>?_)
theorem spec_StepsDown.mono:∀ a0 a1 k,LeO (spec_StepsDown.f k a0 a1) (spec_StepsDown.f (k+1) a0 a1):=by
 intro a0 a1 k
 obtain⟨ih0,ih1⟩:=spec_StepsDown.mono_l k
 unfold spec_StepsDown.f
 repeat' first|(with_reducible first|exact ih0 _ _ _|exact ih1 _ _ _ _|exact spec_OrdValid.mono _ _|exact LeO.refl _|exact LeO.none _|refine LeO.ite ?_ ?_|refine LeO.bind ?_ (fun _=>?_))|exact ih0 _ _ _|exact ih1 _ _ _ _|exact spec_OrdValid.mono _ _|exact LeO.none _|refine LeO.ite ?_ ?_|refine LeO.bind ?_ (fun _=>?_)
set_option maxHeartbeats 8000000 in
set_option maxRecDepth 100000 in
theorem spec_StepsDown.calls (k:Nat)(P0_:Nat→Prop)(A0:Option Addr)(c0:Nat)(l0:List Int)(a1:Int)(r1:Int)(r2:Int)(w:World)(hs0:Kd.V (Kd.int .i64) 3 w w.heap.size (fun k_=>P0_ k_) (.slice A0 l0.length c0) l0)(h:spec_StepsDown.f k l0 a1=some (r1,r2)) :
  Calls Try.prog 42 #[.slice A0 l0.length c0,.int .i64 a1] w fun e w'=>e=.returned (.tuple #[.int .i64 r1,.int .i64 r2])∧Below w.heap.size w w':=by
 have HO0:=Aside0.mk (show Kd.V (Kd.int .i64) 3 w w.heap.size (fun k_=>(P0_ k_∨w.heap.size≤k_)) (.slice A0 l0.length c0) l0 from Kd.V_mono hs0 (fun k_ hk=>.inl hk))
 have HB:=Aside0.mk (Below.refl w.heap.size w)
 have H:((spec_OrdValid.f k l0).bind fun t962=>(if t962=true then((spec_l1In.f a1 0 99).bind fun t963=>(spec_StepsDown.j0 k l0 a1 (!t963))) else(spec_StepsDown.j0 k l0 a1 true)))=some (r1,r2):=h
 clear h
 have HC3:=Aside0.mk H
 clear H
 go_enter Try.func42,Try.ntmps42
 go_upto_region 1 with (fail)
 go_cut [17] (fun v17 wc=>∃ (kq:Nat) (x17_2:Bool),v17=.bool x17_2∧Aside0 (spec_StepsDown.j0 kq l0 a1 x17_2=some (r1,r2))∧Aside0 (kq≤k)∧Aside0 (Kd.V (Kd.int .i64) 3 wc w.heap.size (fun k_=>(P0_ k_∨w.heap.size≤k_)) (.slice A0 l0.length c0) l0)∧Aside0 (Below w.heap.size w wc))
 case first =>
  have H:=HC3.out
  clear HC3
  replace H:=Option.bind_eq_some_iff.mp H
  obtain⟨t962,A40,H⟩:=H
  replace H:(if t962=true then((spec_l1In.f a1 0 99).bind fun t963=>(spec_StepsDown.j0 k l0 a1 (!t963))) else(spec_StepsDown.j0 k l0 a1 true))=some (r1,r2):=H
  have A4:=Aside0.mk A40
  clear A40
  by_cases c5:t962=true
  ·subst c5
   have H1:((spec_l1In.f a1 0 99).bind fun t963=>(spec_StepsDown.j0 k l0 a1 (!t963)))=some (r1,r2):=by rw[if_pos rfl] at H;exact H
   clear H
   have H:=H1
   clear H1
   replace H:=Option.bind_eq_some_iff.mp H
   obtain⟨t963,A60,H⟩:=H
   replace H:(spec_StepsDown.j0 k l0 a1 (!t963))=some (r1,r2):=H
   have A6:=Aside0.mk A60
   clear A60
   have H':=Aside0.mk H
   clear H
   go_wp2_with (first|((with_reducible refine gate_callee (f:=65) rfl ?_);refine goesL_ (some 11) rfl rfl Try.func65 (by kernel_rfl) rfl #[.slice A0 l0.length c0] rfl az ?_;(with_reducible refine(spec_OrdValid.calls k _ _ l0 true _ ?side1 ?side2 A4.out).mono ?_);(case side1=>exact Kd.Cz (Kd.V_reads' HO0.out).2.2);(case side2=>exact(Kd.V_reads' HO0.out).2.1);rintro e w7 ⟨rfl,hb⟩;refine⟨_,rfl,?_⟩;replace HO0:=Aside0.mk (Kd.V_below (Kd.Vz HO0.out) hb);replace HB:=Aside0.mk (below_step bz hb);(try clear hb);(try clear hb2);(try clear hk);(try clear hi))|(go_at_call 51;(with_reducible refine(spec_l1In.calls a1 0 99 t963 _ A6.out).mono ?_);rintro e w' ⟨rfl,⟨nd,rfl⟩⟩))
   go_meet
   case rel=>exact⟨_,(!t963),(by first|rfl|(simp;done)|(simp[*];done)),H',⟨by first|omega|exact Nat.le_refl _⟩,⟨by(with_reducible repeat (first|apply Kd.V_alloc|apply Kd.V_drewN|apply Kd.V_drew));exact HO0.out⟩,⟨bz⟩⟩
  ·replace c5:=Bool.eq_false_iff.mpr c5
   subst c5
   have H1:(spec_StepsDown.j0 k l0 a1 true)=some (r1,r2):=by rw[if_neg (show ¬ (false=true) by decide)] at H;exact H
   clear H
   have H:=H1
   clear H1
   have H':=Aside0.mk H
   clear H
   go_wp2_with (first|((with_reducible refine gate_callee (f:=65) rfl ?_);refine goesL_ (some 11) rfl rfl Try.func65 (by kernel_rfl) rfl #[.slice A0 l0.length c0] rfl az ?_;(with_reducible refine(spec_OrdValid.calls k _ _ l0 false _ ?side1 ?side2 A4.out).mono ?_);(case side1=>exact Kd.Cz (Kd.V_reads' HO0.out).2.2);(case side2=>exact(Kd.V_reads' HO0.out).2.1);rintro e w8 ⟨rfl,hb⟩;refine⟨_,rfl,?_⟩;replace HO0:=Aside0.mk (Kd.V_below (Kd.Vz HO0.out) hb);replace HB:=Aside0.mk (below_step bz hb);(try clear hb);(try clear hb2);(try clear hk);(try clear hi)))
   go_meet
   case rel=>exact⟨_,(true),(by first|rfl|(simp;done)|(simp[*];done)),H',⟨by first|omega|exact Nat.le_refl _⟩,⟨by(with_reducible repeat (first|apply Kd.V_alloc|apply Kd.V_drewN|apply Kd.V_drew));exact HO0.out⟩,⟨bz⟩⟩
 case rest =>
  clear HC3
  try clear p2
  try clear c4
  try clear c5
  try clear c6
  obtain⟨kq,x17_2,rfl,HA,HJ2,HO_0,HB⟩:=hcut
  cases kq with
  | zero=>exact absurd HA.out (by simp[spec_StepsDown.j0])
  | succ kj2 =>
   have H:=HA.out
   clear HA
   simp only[spec_StepsDown.j0] at H
   by_cases c9:x17_2=true
   ·subst c9
    have H1:(some ((-1),(-1)))=some (r1,r2):=by rw[if_pos rfl] at H;exact H
    clear H
    have H:=H1
    clear H1
    simp only[Option.some.injEq,Prod.mk.injEq] at H
    obtain⟨rfl,rfl⟩:=H
    go_wp2
    go_ret2
    exact⟨by first|rfl|(simp[errW_none,errW_some]<;>rfl)|(simp[*,errW_none,errW_some]<;>rfl),bz⟩
   ·replace c9:=Bool.eq_false_iff.mpr c9
    subst c9
    have H1:(spec_StepsDown.l0 kj2 l0 a1 0 0)=some (r1,r2):=by rw[if_neg (show ¬ (false=true) by decide)] at H;exact H
    clear H
    have H:=H1
    clear H1
    have H':=Aside0.mk H
    clear H
    go_wp2
    go_loopg [0,6,7] kj2 (fun kq v0 v6 v7 w'=>∃ (x0_2:List Int) (x6_2:Int) (x7_2:Int),v6=.int .i64 x6_2∧v7=.int .i64 x7_2∧Aside0 (spec_StepsDown.l0 kq x0_2 a1 x6_2 x7_2=some (r1,r2))∧Aside0 (kq≤kj2)∧Aside0 (Kd.V (Kd.int .i64) 3 w' w.heap.size (fun k_=>(P0_ k_∨w.heap.size≤k_)) v0 x0_2)∧Aside0 (Below w.heap.size w w'))
    case atStart=>exact⟨(l0),(0),(0),(by first|rfl|(simp;done)|(simp[*];done)),(by first|rfl|(simp;done)|(simp[*];done)),H',⟨Nat.le_refl _⟩,⟨by(with_reducible repeat (first|apply Kd.V_alloc|apply Kd.V_drewN|apply Kd.V_drew));exact HO_0.out⟩,⟨bz⟩⟩
    case round =>
     clear H'
     try clear p2
     try clear c4
     try clear c5
     try clear c6
     try clear c9
     try clear p2
     obtain⟨x0_2,x6_2,x7_2,rfl,rfl,HA,HK2,HO_0,HB⟩:=hrel
     cases gk with
     | zero=>exact absurd HA.out (by simp[spec_StepsDown.l0])
     | succ k2 =>
      have H:=HA.out
      clear HA
      simp only[spec_StepsDown.l0] at H
      by_cases c10:x7_2≤3000
      ·rw[if_pos c10] at H
       have c10b0:decide (x7_2≤3000)=true:=decide_eq_true c10
       clear c10
       by_cases c11:(x0_2.length:Int)=1
       ·rw[if_pos c11] at H
        have c11b0:((x0_2.length:Int) == 1)=true:=beq_iff_eq.mpr c11
        have c11b1:((x0_2.length:Int) != 1)=false:=bne_eq_false_iff_eq.mpr c11
        clear c11
        simp only[Option.some.injEq,Prod.mk.injEq] at H
        obtain⟨rfl,rfl⟩:=H
        obtain⟨Ao12,co12,eo12⟩:=Kd.V_slice HO_0.out
        subst eo12
        go_wp2
        go_ret2
        exact⟨by first|rfl|(simp[errW_none,errW_some]<;>rfl)|(simp[*,errW_none,errW_some]<;>rfl),bz⟩
       ·rw[if_neg c11] at H
        have c11b0:((x0_2.length:Int) == 1)=false:=beq_eq_false_iff_ne.mpr c11
        have c11b1:((x0_2.length:Int) != 1)=true:=bne_iff_ne.mpr c11
        replace H:=Option.bind_eq_some_iff.mp H
        obtain⟨t964,A130,H⟩:=H
        replace H:(if t964=1 then((spec_OrdStep.f k2 x0_2 a1).bind fun bt965=>(if bt965.2=true then(spec_StepsDown.l0 k2 bt965.1 a1 (wrap64 (x6_2+1)) (wrap64 (x7_2+1))) else(some ((-1),(-1))))) else((spec_OrdStep.f k2 x0_2 a1).bind fun bt969=>(if bt969.2=true then(spec_StepsDown.l0 k2 bt969.1 a1 x6_2 (wrap64 (x7_2+1))) else(some ((-1),(-1))))))=some (r1,r2):=H
        have A13:=Aside0.mk A130
        clear A130
        by_cases c14:t964=1
        ·rw[if_pos c14] at H
         have c14b0:(t964 == 1)=true:=beq_iff_eq.mpr c14
         have c14b1:(t964 != 1)=false:=bne_eq_false_iff_eq.mpr c14
         clear c14
         replace H:=Option.bind_eq_some_iff.mp H
         obtain⟨⟨t965,t966⟩,A150,H⟩:=H
         replace H:(if t966=true then(spec_StepsDown.l0 k2 t965 a1 (wrap64 (x6_2+1)) (wrap64 (x7_2+1))) else(some ((-1),(-1))))=some (r1,r2):=H
         have A15:=Aside0.mk A150
         clear A150
         by_cases c16:t966=true
         ·subst c16
          have H1:(spec_StepsDown.l0 k2 t965 a1 (wrap64 (x6_2+1)) (wrap64 (x7_2+1)))=some (r1,r2):=by rw[if_pos rfl] at H;exact H
          clear H
          have H:=H1
          clear H1
          have H':=Aside0.mk H
          clear H
          obtain⟨Ao17,co17,eo17⟩:=Kd.V_slice HO_0.out
          subst eo17
          go_wp2_with (first|((with_reducible refine gate_callee (f:=70) rfl ?_);refine goesL_ (some 28) rfl rfl Try.func70 (by kernel_rfl) rfl #[.slice Ao17 x0_2.length co17] rfl az ?_;(with_reducible refine(spec_OrdKind.calls k2 _ _ x0_2 t964 _ ?side1 ?side2 A13.out).mono ?_);(case side1=>exact Kd.Cz (Kd.V_reads' HO_0.out).2.2);(case side2=>exact(Kd.V_reads' HO_0.out).2.1);rintro e w18 ⟨rfl,hb⟩;refine⟨_,rfl,?_⟩;replace HO_0:=Aside0.mk (Kd.V_below (Kd.Vz HO_0.out) hb);replace HB:=Aside0.mk (below_step bz hb);(try clear hb);(try clear hb2);(try clear hk);(try clear hi))|((with_reducible refine gate_callee (f:=68) rfl ?_);refine goesL_ (some 35) rfl rfl Try.func68 (by kernel_rfl) rfl #[.slice Ao17 x0_2.length co17,.int .i64 a1] rfl az ?_;(with_reducible refine(spec_OrdStep.calls k2 _ _ x0_2 a1 t965 true _ ?side1 ?side2 A15.out).mono ?_);(case side1=>exact Kd.Cz (Kd.V_reads' HO_0.out).2.2);(case side2=>exact(Kd.V_reads' HO_0.out).2.1);rintro e w19 ⟨v967,rfl,ho0,hb⟩;refine⟨_,rfl,?_⟩;replace HO_0:=Aside0.mk (Kd.V_elder' (Kd.Vz HO_0.out) (Kd.R_base ho0) hb);have HO968:=Aside0.mk (Kd.R_lower (Kd.R_newM (M:=fun k_=>(w.heap.size≤k_)) ho0 (below_size bz) (fun k_ h_=>h_)) (below_size bz));replace HB:=Aside0.mk (below_step bz hb);(try clear hb);(try clear hb2);(try clear hk);(try clear hi);(try clear ho0)))
          go_roundg k2
          case measure=>have:=HJ2.out;have:=HK2.out;omega
          case rel=>exact⟨(t965),(wrap64 (x6_2+1)),(wrap64 (x7_2+1)),(by first|rfl|(simp;done)|(simp[*];done)),(by first|rfl|(simp;done)|(simp[*];done)),H',⟨by have:=HJ2.out;have:=HK2.out;omega⟩,⟨Kd.V_mono (Kd.R_V (Kd.Rz <| Kd.R_mono HO968.out (fun _ hk=>hk.1))) (fun k_ hk=>by first|exact⟨(.inr (hk.1)),hk.2⟩|exact(.inr (hk)))⟩,⟨bz⟩⟩
         ·replace c16:=Bool.eq_false_iff.mpr c16
          subst c16
          have H1:(some ((-1),(-1)))=some (r1,r2):=by rw[if_neg (show ¬ (false=true) by decide)] at H;exact H
          clear H
          have H:=H1
          clear H1
          simp only[Option.some.injEq,Prod.mk.injEq] at H
          obtain⟨rfl,rfl⟩:=H
          obtain⟨Ao20,co20,eo20⟩:=Kd.V_slice HO_0.out
          subst eo20
          go_wp2_with (first|((with_reducible refine gate_callee (f:=70) rfl ?_);refine goesL_ (some 28) rfl rfl Try.func70 (by kernel_rfl) rfl #[.slice Ao20 x0_2.length co20] rfl az ?_;(with_reducible refine(spec_OrdKind.calls k2 _ _ x0_2 t964 _ ?side1 ?side2 A13.out).mono ?_);(case side1=>exact Kd.Cz (Kd.V_reads' HO_0.out).2.2);(case side2=>exact(Kd.V_reads' HO_0.out).2.1);rintro e w21 ⟨rfl,hb⟩;refine⟨_,rfl,?_⟩;replace HO_0:=Aside0.mk (Kd.V_below (Kd.Vz HO_0.out) hb);replace HB:=Aside0.mk (below_step bz hb);(try clear hb);(try clear hb2);(try clear hk);(try clear hi))|((with_reducible refine gate_callee (f:=68) rfl ?_);refine goesL_ (some 35) rfl rfl Try.func68 (by kernel_rfl) rfl #[.slice Ao20 x0_2.length co20,.int .i64 a1] rfl az ?_;(with_reducible refine(spec_OrdStep.calls k2 _ _ x0_2 a1 t965 false _ ?side1 ?side2 A15.out).mono ?_);(case side1=>exact Kd.Cz (Kd.V_reads' HO_0.out).2.2);(case side2=>exact(Kd.V_reads' HO_0.out).2.1);rintro e w22 ⟨v967,rfl,ho0,hb⟩;refine⟨_,rfl,?_⟩;replace HO_0:=Aside0.mk (Kd.V_elder' (Kd.Vz HO_0.out) (Kd.R_base ho0) hb);have HO968:=Aside0.mk (Kd.R_lower (Kd.R_newM (M:=fun k_=>(w.heap.size≤k_)) ho0 (below_size bz) (fun k_ h_=>h_)) (below_size bz));replace HB:=Aside0.mk (below_step bz hb);(try clear hb);(try clear hb2);(try clear hk);(try clear hi);(try clear ho0)))
          go_ret2
          exact⟨by first|rfl|(simp[errW_none,errW_some]<;>rfl)|(simp[*,errW_none,errW_some]<;>rfl),bz⟩
        ·rw[if_neg c14] at H
         have c14b0:(t964 == 1)=false:=beq_eq_false_iff_ne.mpr c14
         have c14b1:(t964 != 1)=true:=bne_iff_ne.mpr c14
         replace H:=Option.bind_eq_some_iff.mp H
         obtain⟨⟨t969,t970⟩,A230,H⟩:=H
         replace H:(if t970=true then(spec_StepsDown.l0 k2 t969 a1 x6_2 (wrap64 (x7_2+1))) else(some ((-1),(-1))))=some (r1,r2):=H
         have A23:=Aside0.mk A230
         clear A230
         by_cases c24:t970=true
         ·subst c24
          have H1:(spec_StepsDown.l0 k2 t969 a1 x6_2 (wrap64 (x7_2+1)))=some (r1,r2):=by rw[if_pos rfl] at H;exact H
          clear H
          have H:=H1
          clear H1
          have H':=Aside0.mk H
          clear H
          obtain⟨Ao25,co25,eo25⟩:=Kd.V_slice HO_0.out
          subst eo25
          go_wp2_with (first|((with_reducible refine gate_callee (f:=70) rfl ?_);refine goesL_ (some 28) rfl rfl Try.func70 (by kernel_rfl) rfl #[.slice Ao25 x0_2.length co25] rfl az ?_;(with_reducible refine(spec_OrdKind.calls k2 _ _ x0_2 t964 _ ?side1 ?side2 A13.out).mono ?_);(case side1=>exact Kd.Cz (Kd.V_reads' HO_0.out).2.2);(case side2=>exact(Kd.V_reads' HO_0.out).2.1);rintro e w26 ⟨rfl,hb⟩;refine⟨_,rfl,?_⟩;replace HO_0:=Aside0.mk (Kd.V_below (Kd.Vz HO_0.out) hb);replace HB:=Aside0.mk (below_step bz hb);(try clear hb);(try clear hb2);(try clear hk);(try clear hi))|((with_reducible refine gate_callee (f:=68) rfl ?_);refine goesL_ (some 35) rfl rfl Try.func68 (by kernel_rfl) rfl #[.slice Ao25 x0_2.length co25,.int .i64 a1] rfl az ?_;(with_reducible refine(spec_OrdStep.calls k2 _ _ x0_2 a1 t969 true _ ?side1 ?side2 A23.out).mono ?_);(case side1=>exact Kd.Cz (Kd.V_reads' HO_0.out).2.2);(case side2=>exact(Kd.V_reads' HO_0.out).2.1);rintro e w27 ⟨v971,rfl,ho0,hb⟩;refine⟨_,rfl,?_⟩;replace HO_0:=Aside0.mk (Kd.V_elder' (Kd.Vz HO_0.out) (Kd.R_base ho0) hb);have HO972:=Aside0.mk (Kd.R_lower (Kd.R_newM (M:=fun k_=>(w.heap.size≤k_)) ho0 (below_size bz) (fun k_ h_=>h_)) (below_size bz));replace HB:=Aside0.mk (below_step bz hb);(try clear hb);(try clear hb2);(try clear hk);(try clear hi);(try clear ho0)))
          go_roundg k2
          case measure=>have:=HJ2.out;have:=HK2.out;omega
          case rel=>exact⟨(t969),(x6_2),(wrap64 (x7_2+1)),(by first|rfl|(simp;done)|(simp[*];done)),(by first|rfl|(simp;done)|(simp[*];done)),H',⟨by have:=HJ2.out;have:=HK2.out;omega⟩,⟨Kd.V_mono (Kd.R_V (Kd.Rz <| Kd.R_mono HO972.out (fun _ hk=>hk.1))) (fun k_ hk=>by first|exact⟨(.inr (hk.1)),hk.2⟩|exact(.inr (hk)))⟩,⟨bz⟩⟩
         ·replace c24:=Bool.eq_false_iff.mpr c24
          subst c24
          have H1:(some ((-1),(-1)))=some (r1,r2):=by rw[if_neg (show ¬ (false=true) by decide)] at H;exact H
          clear H
          have H:=H1
          clear H1
          simp only[Option.some.injEq,Prod.mk.injEq] at H
          obtain⟨rfl,rfl⟩:=H
          obtain⟨Ao28,co28,eo28⟩:=Kd.V_slice HO_0.out
          subst eo28
          go_wp2_with (first|((with_reducible refine gate_callee (f:=70) rfl ?_);refine goesL_ (some 28) rfl rfl Try.func70 (by kernel_rfl) rfl #[.slice Ao28 x0_2.length co28] rfl az ?_;(with_reducible refine(spec_OrdKind.calls k2 _ _ x0_2 t964 _ ?side1 ?side2 A13.out).mono ?_);(case side1=>exact Kd.Cz (Kd.V_reads' HO_0.out).2.2);(case side2=>exact(Kd.V_reads' HO_0.out).2.1);rintro e w29 ⟨rfl,hb⟩;refine⟨_,rfl,?_⟩;replace HO_0:=Aside0.mk (Kd.V_below (Kd.Vz HO_0.out) hb);replace HB:=Aside0.mk (below_step bz hb);(try clear hb);(try clear hb2);(try clear hk);(try clear hi))|((with_reducible refine gate_callee (f:=68) rfl ?_);refine goesL_ (some 35) rfl rfl Try.func68 (by kernel_rfl) rfl #[.slice Ao28 x0_2.length co28,.int .i64 a1] rfl az ?_;(with_reducible refine(spec_OrdStep.calls k2 _ _ x0_2 a1 t969 false _ ?side1 ?side2 A23.out).mono ?_);(case side1=>exact Kd.Cz (Kd.V_reads' HO_0.out).2.2);(case side2=>exact(Kd.V_reads' HO_0.out).2.1);rintro e w30 ⟨v971,rfl,ho0,hb⟩;refine⟨_,rfl,?_⟩;replace HO_0:=Aside0.mk (Kd.V_elder' (Kd.Vz HO_0.out) (Kd.R_base ho0) hb);have HO972:=Aside0.mk (Kd.R_lower (Kd.R_newM (M:=fun k_=>(w.heap.size≤k_)) ho0 (below_size bz) (fun k_ h_=>h_)) (below_size bz));replace HB:=Aside0.mk (below_step bz hb);(try clear hb);(try clear hb2);(try clear hk);(try clear hi);(try clear ho0)))
          go_ret2
          exact⟨by first|rfl|(simp[errW_none,errW_some]<;>rfl)|(simp[*,errW_none,errW_some]<;>rfl),bz⟩
      ·rw[if_neg c10] at H
       have c10b0:decide (x7_2≤3000)=false:=decide_eq_false c10
       clear c10
       simp only[Option.some.injEq,Prod.mk.injEq] at H
       obtain⟨rfl,rfl⟩:=H
       go_wp2
       go_ret2
       exact⟨by first|rfl|(simp[errW_none,errW_some]<;>rfl)|(simp[*,errW_none,errW_some]<;>rfl),bz⟩
end Go.Proofs.Ytpgkpahhohfmhaa.P