/- The walk of one Go function that the law reaches: it comes to what the Lean function of its name tells. -/
import Derived.Test.YtpgkpahhohfmhaaP0
import Derived.Test.YtpgkpahhohfmhaaPimplcompare
import Derived.Test.YtpgkpahhohfmhaaPimplordOf
namespace Go.Proofs.Ytpgkpahhohfmhaa.P
open Go.RowKit Go.Proofs.YtpgkpahhohfmhaaW.PrintWords Go.Proofs.YtpgkpahhohfmhaaW.PrintLast Go.Proofs.YtpgkpahhohfmhaaW.PrintMore
attribute [local go_sem] max2_int min2_int max_two min_two max_three min_three max_four min_four   
set_option linter.unusedVariables false
set_option linter.unusedSimpArgs false

/-! ### impl_OrdCompare: function 19 -/
def impl_OrdCompare.f (k : Nat) (l0 : List Int) (l1 : List Int) : Option (Int) := (impl_ordOf.f k l0).bind fun bt326 => ((impl_ordOf.f k l1).bind fun bt330 => (if bt326.2 = true then (if bt330.2 = true then ((impl_compare.f k bt326.1 bt330.1).bind fun t334 => (some t334)) else (some (-2))) else (some (-2))))
theorem impl_OrdCompare.mono : ∀ a0 a1 k,LeO (impl_OrdCompare.f k a0 a1) (impl_OrdCompare.f (k + 1) a0 a1) := by
 intro a0 a1 k
 unfold impl_OrdCompare.f
 repeat' first|(with_reducible first|exact impl_compare.mono _ _ _|exact impl_ordOf.mono _ _|exact LeO.refl _|exact LeO.none _|refine LeO.ite ?_ ?_|refine LeO.bind ?_ (fun _ => ?_))|exact impl_compare.mono _ _ _|exact impl_ordOf.mono _ _|exact LeO.none _|refine LeO.ite ?_ ?_|refine LeO.bind ?_ (fun _ => ?_)
set_option maxHeartbeats 8000000 in
set_option maxRecDepth 100000 in
theorem impl_OrdCompare.calls (k : Nat) (A0 : Option Addr) (c0 : Nat) (l0 : List Int) (A1 : Option Addr) (c1 : Nat) (l1 : List Int) (r : Int) (w : World) (hr0 : Kd.C (Kd.int .i64) w A0 l0.length l0) (hc0 : l0.length ≤ c0) (hr1 : Kd.C (Kd.int .i64) w A1 l1.length l1) (hc1 : l1.length ≤ c1) (h : impl_OrdCompare.f k l0 l1 = some r) :
  Calls Try.prog 19 #[.slice A0 l0.length c0,.slice A1 l1.length c1] w fun e w' => e = .returned (.int .i64 r) ∧ Below w.heap.size w w' := by
 have HR0 := Aside0.mk hr0
 have HC0 := Aside0.mk hc0
 clear hr0 hc0
 have HR1 := Aside0.mk hr1
 have HC1 := Aside0.mk hc1
 clear hr1 hc1
 have HB := Aside0.mk (Below.refl w.heap.size w)
 have H : ((impl_ordOf.f k l0).bind fun bt326 => ((impl_ordOf.f k l1).bind fun bt330 => (if bt326.2 = true then (if bt330.2 = true then ((impl_compare.f k bt326.1 bt330.1).bind fun t334 => (some t334)) else (some (-2))) else (some (-2))))) = some r := h
 clear h
 replace H := Option.bind_eq_some_iff.mp H
 obtain ⟨⟨t326,t327⟩,A30,H⟩ := H
 replace H : ((impl_ordOf.f k l1).bind fun bt330 => (if t327 = true then (if bt330.2 = true then ((impl_compare.f k t326 bt330.1).bind fun t334 => (some t334)) else (some (-2))) else (some (-2)))) = some r := H
 have A3 := Aside0.mk A30
 clear A30
 replace H := Option.bind_eq_some_iff.mp H
 obtain ⟨⟨t330,t331⟩,A40,H⟩ := H
 replace H : (if t327 = true then (if t331 = true then ((impl_compare.f k t326 t330).bind fun t334 => (some t334)) else (some (-2))) else (some (-2))) = some r := H
 have A4 := Aside0.mk A40
 clear A40
 by_cases c5 : t327 = true
 ·subst c5
  have H1 : (if t331 = true then ((impl_compare.f k t326 t330).bind fun t334 => (some t334)) else (some (-2))) = some r := by rw [if_pos rfl] at H;exact H
  clear H
  have H := H1
  clear H1
  by_cases c6 : t331 = true
  ·subst c6
   have H1 : ((impl_compare.f k t326 t330).bind fun t334 => (some t334)) = some r := by rw [if_pos rfl] at H;exact H
   clear H
   have H := H1
   clear H1
   replace H := Option.bind_eq_some_iff.mp H
   obtain ⟨t334,A70,H⟩ := H
   replace H : (some t334) = some r := H
   have A7 := Aside0.mk A70
   clear A70
   obtain rfl := Option.some.inj H
   go_enter Try.func19,Try.ntmps19
   go_wp2_with (first|((with_reducible refine gate_callee (f := 54) rfl ?_);refine goesL_ (some 11) rfl rfl Try.func54 (by kernel_rfl) rfl #[.slice A0 l0.length c0] rfl az ?_;(with_reducible refine (impl_ordOf.calls k _ _ l0 t326 true _ ?side1 ?side2 A3.out).mono ?_);(case side1 => exact Kd.Cz HR0.out);(case side2 => exact HC0.out);rintro e w8 ⟨v328,rfl,ho0,hb⟩;refine ⟨_,rfl,?_⟩;have n0_ := Aside0.mk (Kd.R_lower ho0 (below_size bz));have n1_ := Aside0.mk (below_step bz hb);clear HB;have HO329 := n0_;have HB := n1_;clear n0_ n1_;(try clear hb);(try clear hb2);(try clear hk);(try clear hi);(try clear ho0))|((with_reducible refine gate_callee (f := 54) rfl ?_);refine goesL_ (some 16) rfl rfl Try.func54 (by kernel_rfl) rfl #[.slice A1 l1.length c1] rfl az ?_;(with_reducible refine (impl_ordOf.calls k _ _ l1 t330 true _ ?side1 ?side2 A4.out).mono ?_);(case side1 => exact Kd.Cz (Kd.C_below HR1.out HB.out));(case side2 => exact HC1.out);rintro e w9 ⟨v332,rfl,ho0,hb⟩;refine ⟨_,rfl,?_⟩;have n0_ := Aside0.mk (Kd.R_elder' (Kd.Rz HO329.out) (Kd.R_base ho0) hb);have n1_ := Aside0.mk (Kd.R_lower (Kd.R_new' ho0 (Kd.R_lt (Kd.Rz HO329.out))) (below_size bz));have n2_ := Aside0.mk (below_step bz hb);clear HO329;clear HB;have HO329 := n0_;have HO333 := n1_;have HB := n2_;clear n0_ n1_ n2_;(try clear hb);(try clear hb2);(try clear hk);(try clear hi);(try clear ho0);obtain ⟨Ao10,co10,eo10⟩ := Kd.R_slice HO329.out;subst eo10;obtain ⟨Ao11,co11,eo11⟩ := Kd.R_slice HO333.out;subst eo11)|((with_reducible refine gate_callee (f := 57) rfl ?_);refine goesL_ (some 27) rfl rfl Try.func57 (by kernel_rfl) rfl #[.slice Ao10 t326.length co10,.slice Ao11 t330.length co11] rfl az ?_;(with_reducible refine (impl_compare.calls k _ _ t326 _ _ t330 t334 _ ?side1 ?side2 ?side3 ?side4 A7.out).mono ?_);(case side1 => exact Kd.Cz (Kd.R_reads' HO329.out).2.2);(case side2 => exact (Kd.R_reads' HO329.out).2.1);(case side3 => exact Kd.Cz (Kd.R_reads' HO333.out).2.2);(case side4 => exact (Kd.R_reads' HO333.out).2.1);rintro e w12 ⟨rfl,hb⟩;refine ⟨_,rfl,?_⟩;have n0_ := Aside0.mk (Kd.R_below (Kd.Rz HO329.out) hb);have n1_ := Aside0.mk (Kd.R_below (Kd.Rz HO333.out) hb);have n2_ := Aside0.mk (below_step bz hb);clear HO329;clear HO333;clear HB;have HO329 := n0_;have HO333 := n1_;have HB := n2_;clear n0_ n1_ n2_;(try clear hb);(try clear hb2);(try clear hk);(try clear hi)))
   go_ret
   exact ⟨by first|rfl|(simp [errW_none,errW_some] <;> rfl)|(simp [*,errW_none,errW_some] <;> rfl),bz⟩
  ·replace c6 := Bool.eq_false_iff.mpr c6
   subst c6
   have H1 : (some (-2)) = some r := by rw [if_neg (show ¬ (false = true) by decide)] at H;exact H
   clear H
   have H := H1
   clear H1
   obtain rfl := Option.some.inj H
   go_enter Try.func19,Try.ntmps19
   go_wp2_with (first|((with_reducible refine gate_callee (f := 54) rfl ?_);refine goesL_ (some 11) rfl rfl Try.func54 (by kernel_rfl) rfl #[.slice A0 l0.length c0] rfl az ?_;(with_reducible refine (impl_ordOf.calls k _ _ l0 t326 true _ ?side1 ?side2 A3.out).mono ?_);(case side1 => exact Kd.Cz HR0.out);(case side2 => exact HC0.out);rintro e w13 ⟨v328,rfl,ho0,hb⟩;refine ⟨_,rfl,?_⟩;have n0_ := Aside0.mk (Kd.R_lower ho0 (below_size bz));have n1_ := Aside0.mk (below_step bz hb);clear HB;have HO329 := n0_;have HB := n1_;clear n0_ n1_;(try clear hb);(try clear hb2);(try clear hk);(try clear hi);(try clear ho0))|((with_reducible refine gate_callee (f := 54) rfl ?_);refine goesL_ (some 16) rfl rfl Try.func54 (by kernel_rfl) rfl #[.slice A1 l1.length c1] rfl az ?_;(with_reducible refine (impl_ordOf.calls k _ _ l1 t330 false _ ?side1 ?side2 A4.out).mono ?_);(case side1 => exact Kd.Cz (Kd.C_below HR1.out HB.out));(case side2 => exact HC1.out);rintro e w14 ⟨v332,rfl,ho0,hb⟩;refine ⟨_,rfl,?_⟩;have n0_ := Aside0.mk (Kd.R_elder' (Kd.Rz HO329.out) (Kd.R_base ho0) hb);have n1_ := Aside0.mk (Kd.R_lower (Kd.R_new' ho0 (Kd.R_lt (Kd.Rz HO329.out))) (below_size bz));have n2_ := Aside0.mk (below_step bz hb);clear HO329;clear HB;have HO329 := n0_;have HO333 := n1_;have HB := n2_;clear n0_ n1_ n2_;(try clear hb);(try clear hb2);(try clear hk);(try clear hi);(try clear ho0)))
   go_ret
   exact ⟨by first|rfl|(simp [errW_none,errW_some] <;> rfl)|(simp [*,errW_none,errW_some] <;> rfl),bz⟩
 ·replace c5 := Bool.eq_false_iff.mpr c5
  subst c5
  have H1 : (some (-2)) = some r := by rw [if_neg (show ¬ (false = true) by decide)] at H;exact H
  clear H
  have H := H1
  clear H1
  obtain rfl := Option.some.inj H
  go_enter Try.func19,Try.ntmps19
  go_wp2_with (first|((with_reducible refine gate_callee (f := 54) rfl ?_);refine goesL_ (some 11) rfl rfl Try.func54 (by kernel_rfl) rfl #[.slice A0 l0.length c0] rfl az ?_;(with_reducible refine (impl_ordOf.calls k _ _ l0 t326 false _ ?side1 ?side2 A3.out).mono ?_);(case side1 => exact Kd.Cz HR0.out);(case side2 => exact HC0.out);rintro e w15 ⟨v328,rfl,ho0,hb⟩;refine ⟨_,rfl,?_⟩;have n0_ := Aside0.mk (Kd.R_lower ho0 (below_size bz));have n1_ := Aside0.mk (below_step bz hb);clear HB;have HO329 := n0_;have HB := n1_;clear n0_ n1_;(try clear hb);(try clear hb2);(try clear hk);(try clear hi);(try clear ho0))|((with_reducible refine gate_callee (f := 54) rfl ?_);refine goesL_ (some 16) rfl rfl Try.func54 (by kernel_rfl) rfl #[.slice A1 l1.length c1] rfl az ?_;(with_reducible refine (impl_ordOf.calls k _ _ l1 t330 t331 _ ?side1 ?side2 A4.out).mono ?_);(case side1 => exact Kd.Cz (Kd.C_below HR1.out HB.out));(case side2 => exact HC1.out);rintro e w16 ⟨v332,rfl,ho0,hb⟩;refine ⟨_,rfl,?_⟩;have n0_ := Aside0.mk (Kd.R_elder' (Kd.Rz HO329.out) (Kd.R_base ho0) hb);have n1_ := Aside0.mk (Kd.R_lower (Kd.R_new' ho0 (Kd.R_lt (Kd.Rz HO329.out))) (below_size bz));have n2_ := Aside0.mk (below_step bz hb);clear HO329;clear HB;have HO329 := n0_;have HO333 := n1_;have HB := n2_;clear n0_ n1_ n2_;(try clear hb);(try clear hb2);(try clear hk);(try clear hi);(try clear ho0)))
  go_ret
  exact ⟨by first|rfl|(simp [errW_none,errW_some] <;> rfl)|(simp [*,errW_none,errW_some] <;> rfl),bz⟩

end Go.Proofs.Ytpgkpahhohfmhaa.P
