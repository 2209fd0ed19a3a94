/- The walk of one Go function that the law reaches: it comes to what the Lean function of its name tells. -/
import Derived.Test.YtninfokihgbgpaaP0
import Derived.Test.YtninfokihgbgpaaPimplordOf
namespace Go.Proofs.Ytninfokihgbgpaa.P
open Go.RowKit Go.Proofs.YtninfokihgbgpaaW.PrintWords Go.Proofs.YtninfokihgbgpaaW.PrintLast Go.Proofs.YtninfokihgbgpaaW.PrintMore
attribute [local go_sem] max2_int min2_int max_two min_two max_three min_three max_four min_four   
set_option linter.unusedVariables false
set_option linter.unusedSimpArgs false

/-! ### impl_OrdNumber: function 22 -/
def impl_OrdNumber.f (k : Nat) (l0 : List Int) : Option (Int) := (impl_ordOf.f k l0).bind fun bt262 => (if bt262.2 = true then (if (bt262.1.length : Int) = 0 then (some 0) else (if (bt262.1.length : Int) = 1 then (if 0 < (bt262.1.length : Int) then (if (((rd_T56 bt262.1 0).f1).length : Int) = 0 then (some ((rd_T56 bt262.1 0).f0)) else (some (-1))) else (none)) else (some (-1)))) else (some (-1)))
theorem impl_OrdNumber.mono : ∀ a0 k,LeO (impl_OrdNumber.f k a0) (impl_OrdNumber.f (k + 1) a0) := by
 intro a0 k
 unfold impl_OrdNumber.f
 repeat' first|(with_reducible first|exact impl_ordOf.mono _ _|exact LeO.refl _|exact LeO.none _|refine LeO.ite ?_ ?_|refine LeO.bind ?_ (fun _ => ?_))|exact impl_ordOf.mono _ _|exact LeO.none _|refine LeO.ite ?_ ?_|refine LeO.bind ?_ (fun _ => ?_)
set_option maxHeartbeats 8000000 in
set_option maxRecDepth 100000 in
theorem impl_OrdNumber.calls (k : Nat) (A0 : Option Addr) (c0 : Nat) (l0 : List Int) (r : Int) (w : World) (hr0 : Kd.C (Kd.int .i64) w A0 l0.length l0) (hc0 : l0.length ≤ c0) (h : impl_OrdNumber.f k l0 = some r) :
  Calls Try.prog 22 #[.slice A0 l0.length c0] w fun e w' => e = .returned (.int .i64 r) ∧ Below w.heap.size w w' := by
 have HR0 := Aside0.mk hr0
 have HC0 := Aside0.mk hc0
 clear hr0 hc0
 have HB := Aside0.mk (Below.refl w.heap.size w)
 have H : ((impl_ordOf.f k l0).bind fun bt262 => (if bt262.2 = true then (if (bt262.1.length : Int) = 0 then (some 0) else (if (bt262.1.length : Int) = 1 then (if 0 < (bt262.1.length : Int) then (if (((rd_T56 bt262.1 0).f1).length : Int) = 0 then (some ((rd_T56 bt262.1 0).f0)) else (some (-1))) else (none)) else (some (-1)))) else (some (-1)))) = some r := h
 clear h
 replace H := Option.bind_eq_some_iff.mp H
 obtain ⟨⟨t262,t263⟩,A20,H⟩ := H
 replace H : (if t263 = true then (if (t262.length : Int) = 0 then (some 0) else (if (t262.length : Int) = 1 then (if 0 < (t262.length : Int) then (if (((rd_T56 t262 0).f1).length : Int) = 0 then (some ((rd_T56 t262 0).f0)) else (some (-1))) else (none)) else (some (-1)))) else (some (-1))) = some r := H
 have A2 := Aside0.mk A20
 clear A20
 by_cases c3 : t263 = true
 ·subst c3
  have H1 : (if (t262.length : Int) = 0 then (some 0) else (if (t262.length : Int) = 1 then (if 0 < (t262.length : Int) then (if (((rd_T56 t262 0).f1).length : Int) = 0 then (some ((rd_T56 t262 0).f0)) else (some (-1))) else (none)) else (some (-1)))) = some r := by rw [if_pos rfl] at H;exact H
  clear H
  have H := H1
  clear H1
  by_cases c4 : (t262.length : Int) = 0
  ·rw [if_pos c4] at H
   have c4b0 : ((t262.length : Int) == 0) = true := beq_iff_eq.mpr c4
   have c4b1 : ((t262.length : Int) != 0) = false := bne_eq_false_iff_eq.mpr c4
   clear c4
   obtain rfl := Option.some.inj H
   go_enter Try.func22,Try.ntmps22
   go_wp2_with (first|((with_reducible refine gate_callee (f := 60) rfl ?_);refine goesL_ (some 7) rfl rfl Try.func60 (by kernel_rfl) rfl #[.slice A0 l0.length c0] rfl az ?_;(with_reducible refine (impl_ordOf.calls k _ _ l0 t262 true _ ?side1 ?side2 A2.out).mono ?_);(case side1 => exact Kd.Cz HR0.out);(case side2 => exact HC0.out);rintro e w5 ⟨v264,rfl,ho0,hb⟩;refine ⟨_,rfl,?_⟩;have n0_ := Aside0.mk (Kd.R_lower ho0 (below_size bz));have n1_ := Aside0.mk (below_step bz hb);clear HB;have HO265 := n0_;have HB := n1_;clear n0_ n1_;(try clear hb);(try clear hb2);(try clear hk);(try clear hi);(try clear ho0);obtain ⟨Ao6,co6,eo6⟩ := Kd.R_slice HO265.out;subst eo6))
   go_ret
   exact ⟨by first|rfl|(simp [errW_none,errW_some] <;> rfl)|(simp [*,errW_none,errW_some] <;> rfl),bz⟩
  ·rw [if_neg c4] at H
   have c4b0 : ((t262.length : Int) == 0) = false := beq_eq_false_iff_ne.mpr c4
   have c4b1 : ((t262.length : Int) != 0) = true := bne_iff_ne.mpr c4
   have c4b2 : ¬ (t262 = []) := fun h_ => c4 (by rw [h_];rfl)
   by_cases c7 : (t262.length : Int) = 1
   ·rw [if_pos c7] at H
    have c7b0 : ((t262.length : Int) == 1) = true := beq_iff_eq.mpr c7
    have c7b1 : ((t262.length : Int) != 1) = false := bne_eq_false_iff_eq.mpr c7
    clear c7
    by_cases c8 : 0 < (t262.length : Int)
    ·rw [if_pos c8] at H
     have c8b0 : decide (0 < (t262.length : Int)) = true := decide_eq_true c8
     have c8b1 : decide (0 < t262.length) = true := decide_eq_true (by omega)
     clear c8
     by_cases c9 : (((rd_T56 t262 0).f1).length : Int) = 0
     ·rw [if_pos c9] at H
      have c9b0 : ((((rd_T56 t262 0).f1).length : Int) == 0) = true := beq_iff_eq.mpr c9
      have c9b1 : ((((rd_T56 t262 0).f1).length : Int) != 0) = false := bne_eq_false_iff_eq.mpr c9
      clear c9
      obtain rfl := Option.some.inj H
      go_enter Try.func22,Try.ntmps22
      go_wp2_with (first|((with_reducible refine gate_callee (f := 60) rfl ?_);refine goesL_ (some 7) rfl rfl Try.func60 (by kernel_rfl) rfl #[.slice A0 l0.length c0] rfl az ?_;(with_reducible refine (impl_ordOf.calls k _ _ l0 t262 true _ ?side1 ?side2 A2.out).mono ?_);(case side1 => exact Kd.Cz HR0.out);(case side2 => exact HC0.out);rintro e w10 ⟨v264,rfl,ho0,hb⟩;refine ⟨_,rfl,?_⟩;have n0_ := Aside0.mk (Kd.R_lower ho0 (below_size bz));have n1_ := Aside0.mk (below_step bz hb);clear HB;have HO265 := n0_;have HB := n1_;clear n0_ n1_;(try clear hb);(try clear hb2);(try clear hk);(try clear hi);(try clear ho0);obtain ⟨Ao11,co11,eo11⟩ := Kd.R_slice HO265.out;subst eo11;have p266 : 0 ≤ (0 : Int) := (by omega);have q266 : 0 < (t262.length : Int) := dz;obtain ⟨ad266,A266_1,c266_1,e266,hx266_0,hx266_1,hl266_1,hi266_1⟩ := at_T56 (Kd.R_reads' HO265.out).2.2 0 p266 q266;cases e266;obtain ⟨ce266,hce266,hMe266,hcc266⟩ := Kd.R_get HO265.out z56 0 p266 (by first|exact q266|exact dz|(have e_ := (Kd.R_reads' HO265.out).1;omega));obtain ⟨ve266_1,rfl,ge266_1⟩ := k56_openM hMe266;have hv266_1 := hcc266 1 _ rfl;rw [add_field _ _ 1 (by omega)] at hv266_1;replace hv266_1 := Option.some.inj (hv266_1.symm.trans hx266_1);rw [hv266_1] at ge266_1;have HL266_1 := Aside0.mk (show Kd.R k56 56 _ _ _ _ ((rd_T56 t262 0).f1) from ge266_1);clear hv266_1 ge266_1;clear hcc266 hce266;have qi266 : (0 < t262.length) = True := eq_true (by omega);(try rw [show ((0 : Int)).toNat = 0 from rfl] at hx266_0);(try rw [show 0 * 2 = 0 from rfl] at hx266_0);(try rw [Addr.add_zero'] at hx266_0);(try rw [show ((0 : Int)).toNat = 0 from rfl] at hx266_1);(try rw [show 0 * 2 = 0 from rfl] at hx266_1);(try rw [Addr.add_zero'] at hx266_1);have HR266_1 := Aside0.mk hi266_1;have HC266_1 := Aside0.mk hl266_1;clear hi266_1 hl266_1;replace p266 := eq_true p266;replace q266 := eq_true q266;have p267 : 0 ≤ (0 : Int) := (by omega);have q267 : 0 < (t262.length : Int) := dz;obtain ⟨ad267,A267_1,c267_1,e267,hx267_0,hx267_1,hl267_1,hi267_1⟩ := at_T56 (Kd.R_reads' HO265.out).2.2 0 p267 q267;obtain rfl : ad266 = ad267 := (by injection e267);obtain ⟨ce267,hce267,hMe267,hcc267⟩ := Kd.R_get HO265.out z56 0 p267 (by first|exact q267|exact dz|(have e_ := (Kd.R_reads' HO265.out).1;omega));obtain ⟨ve267_1,rfl,ge267_1⟩ := k56_openM hMe267;have hv267_1 := hcc267 1 _ rfl;rw [add_field _ _ 1 (by omega)] at hv267_1;replace hv267_1 := Option.some.inj (hv267_1.symm.trans hx267_1);rw [hv267_1] at ge267_1;have HL267_1 := Aside0.mk (show Kd.R k56 56 _ _ _ _ ((rd_T56 t262 0).f1) from ge267_1);clear hv267_1 ge267_1;clear hcc267 hce267;have qi267 : (0 < t262.length) = True := eq_true (by omega);(try rw [show ((0 : Int)).toNat = 0 from rfl] at hx267_0);(try rw [show 0 * 2 = 0 from rfl] at hx267_0);(try rw [Addr.add_zero'] at hx267_0);(try rw [show ((0 : Int)).toNat = 0 from rfl] at hx267_1);(try rw [show 0 * 2 = 0 from rfl] at hx267_1);(try rw [Addr.add_zero'] at hx267_1);have HR267_1 := Aside0.mk hi267_1;have HC267_1 := Aside0.mk hl267_1;clear hi267_1 hl267_1;replace p267 := eq_true p267;replace q267 := eq_true q267;have ea_ := Option.some.inj (hx266_1.symm.trans hx267_1);injection ea_ with ea_ en_ ec_;subst ea_;subst ec_;clear en_))
      go_ret
      exact ⟨by first|rfl|(simp [errW_none,errW_some] <;> rfl)|(simp [*,errW_none,errW_some] <;> rfl),bz⟩
     ·rw [if_neg c9] at H
      have c9b0 : ((((rd_T56 t262 0).f1).length : Int) == 0) = false := beq_eq_false_iff_ne.mpr c9
      have c9b1 : ((((rd_T56 t262 0).f1).length : Int) != 0) = true := bne_iff_ne.mpr c9
      have c9b2 : ¬ (((rd_T56 t262 0).f1) = []) := fun h_ => c9 (by rw [h_];rfl)
      obtain rfl := Option.some.inj H
      go_enter Try.func22,Try.ntmps22
      go_wp2_with (first|((with_reducible refine gate_callee (f := 60) rfl ?_);refine goesL_ (some 7) rfl rfl Try.func60 (by kernel_rfl) rfl #[.slice A0 l0.length c0] rfl az ?_;(with_reducible refine (impl_ordOf.calls k _ _ l0 t262 true _ ?side1 ?side2 A2.out).mono ?_);(case side1 => exact Kd.Cz HR0.out);(case side2 => exact HC0.out);rintro e w12 ⟨v264,rfl,ho0,hb⟩;refine ⟨_,rfl,?_⟩;have n0_ := Aside0.mk (Kd.R_lower ho0 (below_size bz));have n1_ := Aside0.mk (below_step bz hb);clear HB;have HO265 := n0_;have HB := n1_;clear n0_ n1_;(try clear hb);(try clear hb2);(try clear hk);(try clear hi);(try clear ho0);obtain ⟨Ao13,co13,eo13⟩ := Kd.R_slice HO265.out;subst eo13;have p266 : 0 ≤ (0 : Int) := (by omega);have q266 : 0 < (t262.length : Int) := dz;obtain ⟨ad266,A266_1,c266_1,e266,hx266_0,hx266_1,hl266_1,hi266_1⟩ := at_T56 (Kd.R_reads' HO265.out).2.2 0 p266 q266;cases e266;obtain ⟨ce266,hce266,hMe266,hcc266⟩ := Kd.R_get HO265.out z56 0 p266 (by first|exact q266|exact dz|(have e_ := (Kd.R_reads' HO265.out).1;omega));obtain ⟨ve266_1,rfl,ge266_1⟩ := k56_openM hMe266;have hv266_1 := hcc266 1 _ rfl;rw [add_field _ _ 1 (by omega)] at hv266_1;replace hv266_1 := Option.some.inj (hv266_1.symm.trans hx266_1);rw [hv266_1] at ge266_1;have HL266_1 := Aside0.mk (show Kd.R k56 56 _ _ _ _ ((rd_T56 t262 0).f1) from ge266_1);clear hv266_1 ge266_1;clear hcc266 hce266;have qi266 : (0 < t262.length) = True := eq_true (by omega);(try rw [show ((0 : Int)).toNat = 0 from rfl] at hx266_0);(try rw [show 0 * 2 = 0 from rfl] at hx266_0);(try rw [Addr.add_zero'] at hx266_0);(try rw [show ((0 : Int)).toNat = 0 from rfl] at hx266_1);(try rw [show 0 * 2 = 0 from rfl] at hx266_1);(try rw [Addr.add_zero'] at hx266_1);have HR266_1 := Aside0.mk hi266_1;have HC266_1 := Aside0.mk hl266_1;clear hi266_1 hl266_1;replace p266 := eq_true p266;replace q266 := eq_true q266))
      go_ret
      exact ⟨by first|rfl|(simp [errW_none,errW_some] <;> rfl)|(simp [*,errW_none,errW_some] <;> rfl),bz⟩
    ·rw [if_neg c8] at H
     exact absurd H (by simp)
   ·rw [if_neg c7] at H
    have c7b0 : ((t262.length : Int) == 1) = false := beq_eq_false_iff_ne.mpr c7
    have c7b1 : ((t262.length : Int) != 1) = true := bne_iff_ne.mpr c7
    obtain rfl := Option.some.inj H
    go_enter Try.func22,Try.ntmps22
    go_wp2_with (first|((with_reducible refine gate_callee (f := 60) rfl ?_);refine goesL_ (some 7) rfl rfl Try.func60 (by kernel_rfl) rfl #[.slice A0 l0.length c0] rfl az ?_;(with_reducible refine (impl_ordOf.calls k _ _ l0 t262 true _ ?side1 ?side2 A2.out).mono ?_);(case side1 => exact Kd.Cz HR0.out);(case side2 => exact HC0.out);rintro e w14 ⟨v264,rfl,ho0,hb⟩;refine ⟨_,rfl,?_⟩;have n0_ := Aside0.mk (Kd.R_lower ho0 (below_size bz));have n1_ := Aside0.mk (below_step bz hb);clear HB;have HO265 := n0_;have HB := n1_;clear n0_ n1_;(try clear hb);(try clear hb2);(try clear hk);(try clear hi);(try clear ho0);obtain ⟨Ao15,co15,eo15⟩ := Kd.R_slice HO265.out;subst eo15))
    go_ret
    exact ⟨by first|rfl|(simp [errW_none,errW_some] <;> rfl)|(simp [*,errW_none,errW_some] <;> rfl),bz⟩
 ·replace c3 := Bool.eq_false_iff.mpr c3
  subst c3
  have H1 : (some (-1)) = some r := by rw [if_neg (show ¬ (false = true) by decide)] at H;exact H
  clear H
  have H := H1
  clear H1
  obtain rfl := Option.some.inj H
  go_enter Try.func22,Try.ntmps22
  go_wp2_with (first|((with_reducible refine gate_callee (f := 60) rfl ?_);refine goesL_ (some 7) rfl rfl Try.func60 (by kernel_rfl) rfl #[.slice A0 l0.length c0] rfl az ?_;(with_reducible refine (impl_ordOf.calls k _ _ l0 t262 false _ ?side1 ?side2 A2.out).mono ?_);(case side1 => exact Kd.Cz HR0.out);(case side2 => exact HC0.out);rintro e w16 ⟨v264,rfl,ho0,hb⟩;refine ⟨_,rfl,?_⟩;have n0_ := Aside0.mk (Kd.R_lower ho0 (below_size bz));have n1_ := Aside0.mk (below_step bz hb);clear HB;have HO265 := n0_;have HB := n1_;clear n0_ n1_;(try clear hb);(try clear hb2);(try clear hk);(try clear hi);(try clear ho0)))
  go_ret
  exact ⟨by first|rfl|(simp [errW_none,errW_some] <;> rfl)|(simp [*,errW_none,errW_some] <;> rfl),bz⟩

end Go.Proofs.Ytninfokihgbgpaa.P
