/- The walk of one Go function that the law reaches: it comes to what the Lean function of its name tells. -/
import Derived.Test.YtninfokihgbgpaaP0
import Derived.Test.YtninfokihgbgpaaPspecOrdValid
import Derived.Test.YtninfokihgbgpaaPspecl1Terms
namespace Go.Proofs.Ytninfokihgbgpaa.P
open Go.RowKit Go.Proofs.YtninfokihgbgpaaW.PrintWords Go.Proofs.YtninfokihgbgpaaW.PrintLast Go.Proofs.YtninfokihgbgpaaW.PrintMore
attribute [local go_sem] max2_int min2_int max_two min_two max_three min_three max_four min_four   
set_option linter.unusedVariables false
set_option linter.unusedSimpArgs false

/-! ### spec_OrdNumber: function 30 -/
def spec_OrdNumber.f (k : Nat) (l0 : List Int) : Option (Int) := (spec_OrdValid.f k l0).bind fun t581 => (if t581 = true then ((spec_l1Terms.f k l0).bind fun bt582 => (if (bt582.1.length : Int) = 0 then (some 0) else (if (bt582.1.length : Int) = 1 then (if 0 < (bt582.2.length : Int) then (if ((rd_L3 bt582.2 0).length : Int) = 1 then (if 0 < (bt582.1.length : Int) then (some (rd bt582.1 0)) else (none)) else (some (-1))) else (none)) else (some (-1))))) else (some (-1)))
theorem spec_OrdNumber.mono : ∀ a0 k,LeO (spec_OrdNumber.f k a0) (spec_OrdNumber.f (k + 1) a0) := by
 intro a0 k
 unfold spec_OrdNumber.f
 repeat' first|(with_reducible first|exact spec_OrdValid.mono _ _|exact spec_l1Terms.mono _ _|exact LeO.refl _|exact LeO.none _|refine LeO.ite ?_ ?_|refine LeO.bind ?_ (fun _ => ?_))|exact spec_OrdValid.mono _ _|exact spec_l1Terms.mono _ _|exact LeO.none _|refine LeO.ite ?_ ?_|refine LeO.bind ?_ (fun _ => ?_)
set_option maxHeartbeats 8000000 in
set_option maxRecDepth 100000 in
theorem spec_OrdNumber.calls (k : Nat) (A0 : Option Addr) (c0 : Nat) (l0 : List Int) (r : Int) (w : World) (hr0 : Kd.C (Kd.int .i64) w A0 l0.length l0) (hc0 : l0.length ≤ c0) (h : spec_OrdNumber.f k l0 = some r) :
  Calls Try.prog 30 #[.slice A0 l0.length c0] w fun e w' => e = .returned (.int .i64 r) ∧ Below w.heap.size w w' := by
 have HR0 := Aside0.mk hr0
 have HC0 := Aside0.mk hc0
 clear hr0 hc0
 have HB := Aside0.mk (Below.refl w.heap.size w)
 have H : ((spec_OrdValid.f k l0).bind fun t581 => (if t581 = true then ((spec_l1Terms.f k l0).bind fun bt582 => (if (bt582.1.length : Int) = 0 then (some 0) else (if (bt582.1.length : Int) = 1 then (if 0 < (bt582.2.length : Int) then (if ((rd_L3 bt582.2 0).length : Int) = 1 then (if 0 < (bt582.1.length : Int) then (some (rd bt582.1 0)) else (none)) else (some (-1))) else (none)) else (some (-1))))) else (some (-1)))) = some r := h
 clear h
 replace H := Option.bind_eq_some_iff.mp H
 obtain ⟨t581,A20,H⟩ := H
 replace H : (if t581 = true then ((spec_l1Terms.f k l0).bind fun bt582 => (if (bt582.1.length : Int) = 0 then (some 0) else (if (bt582.1.length : Int) = 1 then (if 0 < (bt582.2.length : Int) then (if ((rd_L3 bt582.2 0).length : Int) = 1 then (if 0 < (bt582.1.length : Int) then (some (rd bt582.1 0)) else (none)) else (some (-1))) else (none)) else (some (-1))))) else (some (-1))) = some r := H
 have A2 := Aside0.mk A20
 clear A20
 by_cases c3 : t581 = true
 ·subst c3
  have H1 : ((spec_l1Terms.f k l0).bind fun bt582 => (if (bt582.1.length : Int) = 0 then (some 0) else (if (bt582.1.length : Int) = 1 then (if 0 < (bt582.2.length : Int) then (if ((rd_L3 bt582.2 0).length : Int) = 1 then (if 0 < (bt582.1.length : Int) then (some (rd bt582.1 0)) else (none)) else (some (-1))) else (none)) else (some (-1))))) = some r := by rw [if_pos rfl] at H;exact H
  clear H
  have H := H1
  clear H1
  replace H := Option.bind_eq_some_iff.mp H
  obtain ⟨⟨t582,t585⟩,A40,H⟩ := H
  replace H : (if (t582.length : Int) = 0 then (some 0) else (if (t582.length : Int) = 1 then (if 0 < (t585.length : Int) then (if ((rd_L3 t585 0).length : Int) = 1 then (if 0 < (t582.length : Int) then (some (rd t582 0)) else (none)) else (some (-1))) else (none)) else (some (-1)))) = some r := H
  have A4 := Aside0.mk A40
  clear A40
  by_cases c5 : (t582.length : Int) = 0
  ·rw [if_pos c5] at H
   have c5b0 : ((t582.length : Int) == 0) = true := beq_iff_eq.mpr c5
   have c5b1 : ((t582.length : Int) != 0) = false := bne_eq_false_iff_eq.mpr c5
   clear c5
   obtain rfl := Option.some.inj H
   go_enter Try.func30,Try.ntmps30
   go_wp2_with (first|((with_reducible refine gate_callee (f := 24) rfl ?_);refine goesL_ (some 6) rfl rfl Try.func24 (by kernel_rfl) rfl #[.slice A0 l0.length c0] rfl az ?_;(with_reducible refine (spec_OrdValid.calls k _ _ l0 true _ ?side1 ?side2 A2.out).mono ?_);(case side1 => exact Kd.Cz HR0.out);(case side2 => exact HC0.out);rintro e w6 ⟨rfl,hb⟩;refine ⟨_,rfl,?_⟩;have n0_ := Aside0.mk (below_step bz hb);clear HB;have HB := n0_;clear n0_;(try clear hb);(try clear hb2);(try clear hk);(try clear hi))|((with_reducible refine gate_callee (f := 65) rfl ?_);refine goesL_ (some 10) rfl rfl Try.func65 (by kernel_rfl) rfl #[.slice A0 l0.length c0] rfl az ?_;(with_reducible refine (spec_l1Terms.calls k (fun k_ => k_ < w.heap.size) _ _ l0 t582 t585 _ ?side1 A4.out).mono ?_);(case side1 => exact Kd.V_mk HC0.out (Kd.F_below (Kd.C_F (Kd.heap_int .i64) HR0.out) bz));rintro e w7 ⟨v583,v586,rfl,ho0,ho1,hb⟩;refine ⟨_,rfl,?_⟩;have n0_ := Aside0.mk (Kd.R_lower (Kd.R_mono (ok' := fun k_ => True) ho0 (fun _ hk_ => trivial)) (below_size bz));have n1_ := Aside0.mk (Kd.N_lower (Kd.N_mono (ok' := fun k_ => some k_ ≠ (v583 : Value).ownBlock) ho1 (fun k_ hk_ => hk_.2)) (below_size bz));have n2_ := Aside0.mk (below_step bz hb);clear HB;have HO584 := n0_;have HO587 := n1_;have HB := n2_;clear n0_ n1_ n2_;(try clear hb);(try clear hb2);(try clear hk);(try clear hi);(try clear ho0);(try clear ho1);obtain ⟨Ao8,co8,eo8⟩ := Kd.R_slice HO584.out;subst eo8))
   go_ret
   exact ⟨by first|rfl|(simp [errW_none,errW_some] <;> rfl)|(simp [*,errW_none,errW_some] <;> rfl),bz⟩
  ·rw [if_neg c5] at H
   have c5b0 : ((t582.length : Int) == 0) = false := beq_eq_false_iff_ne.mpr c5
   have c5b1 : ((t582.length : Int) != 0) = true := bne_iff_ne.mpr c5
   have c5b2 : ¬ (t582 = []) := fun h_ => c5 (by rw [h_];rfl)
   by_cases c9 : (t582.length : Int) = 1
   ·rw [if_pos c9] at H
    have c9b0 : ((t582.length : Int) == 1) = true := beq_iff_eq.mpr c9
    have c9b1 : ((t582.length : Int) != 1) = false := bne_eq_false_iff_eq.mpr c9
    clear c9
    by_cases c10 : 0 < (t585.length : Int)
    ·rw [if_pos c10] at H
     have c10b0 : decide (0 < (t585.length : Int)) = true := decide_eq_true c10
     have c10b1 : decide (0 < t585.length) = true := decide_eq_true (by omega)
     clear c10
     by_cases c11 : ((rd_L3 t585 0).length : Int) = 1
     ·rw [if_pos c11] at H
      have c11b0 : (((rd_L3 t585 0).length : Int) == 1) = true := beq_iff_eq.mpr c11
      have c11b1 : (((rd_L3 t585 0).length : Int) != 1) = false := bne_eq_false_iff_eq.mpr c11
      clear c11
      by_cases c12 : 0 < (t582.length : Int)
      ·rw [if_pos c12] at H
       have c12b0 : decide (0 < (t582.length : Int)) = true := decide_eq_true c12
       have c12b1 : decide (0 < t582.length) = true := decide_eq_true (by omega)
       clear c12
       obtain rfl := Option.some.inj H
       go_enter Try.func30,Try.ntmps30
       go_wp2_with (first|((with_reducible refine gate_callee (f := 24) rfl ?_);refine goesL_ (some 6) rfl rfl Try.func24 (by kernel_rfl) rfl #[.slice A0 l0.length c0] rfl az ?_;(with_reducible refine (spec_OrdValid.calls k _ _ l0 true _ ?side1 ?side2 A2.out).mono ?_);(case side1 => exact Kd.Cz HR0.out);(case side2 => exact HC0.out);rintro e w13 ⟨rfl,hb⟩;refine ⟨_,rfl,?_⟩;have n0_ := Aside0.mk (below_step bz hb);clear HB;have HB := n0_;clear n0_;(try clear hb);(try clear hb2);(try clear hk);(try clear hi))|((with_reducible refine gate_callee (f := 65) rfl ?_);refine goesL_ (some 10) rfl rfl Try.func65 (by kernel_rfl) rfl #[.slice A0 l0.length c0] rfl az ?_;(with_reducible refine (spec_l1Terms.calls k (fun k_ => k_ < w.heap.size) _ _ l0 t582 t585 _ ?side1 A4.out).mono ?_);(case side1 => exact Kd.V_mk HC0.out (Kd.F_below (Kd.C_F (Kd.heap_int .i64) HR0.out) bz));rintro e w14 ⟨v583,v586,rfl,ho0,ho1,hb⟩;refine ⟨_,rfl,?_⟩;have n0_ := Aside0.mk (Kd.R_lower (Kd.R_mono (ok' := fun k_ => True) ho0 (fun _ hk_ => trivial)) (below_size bz));have n1_ := Aside0.mk (Kd.N_lower (Kd.N_mono (ok' := fun k_ => some k_ ≠ (v583 : Value).ownBlock) ho1 (fun k_ hk_ => hk_.2)) (below_size bz));have n2_ := Aside0.mk (below_step bz hb);clear HB;have HO584 := n0_;have HO587 := n1_;have HB := n2_;clear n0_ n1_ n2_;(try clear hb);(try clear hb2);(try clear hk);(try clear hi);(try clear ho0);(try clear ho1);obtain ⟨Ao15,co15,eo15⟩ := Kd.R_slice HO584.out;subst eo15;obtain ⟨Ao16,co16,eo16⟩ := Kd.N_slice HO587.out;subst eo16;have p588 : 0 ≤ (0 : Int) := (by omega);have q588 : 0 < (t585.length : Int) := dz;obtain ⟨ad588,A588_0,c588_0,e588,hx588_0,hl588_0,hi588_0⟩ := at_L3 (Kd.N_reads' HO587.out).2.2 0 p588 q588;cases e588;obtain ⟨ce588,hce588,hMe588,hcc588⟩ := Kd.N_get HO587.out [] 0 p588 (by first|exact q588|exact dz|(have e_ := (Kd.N_reads' HO587.out).1;omega));obtain ⟨ua588_0,uc588_0,rfl,ul588_0,ge588_0⟩ := Kd.FK_slice_open hMe588;have hv588_0 := hcc588 0 _ rfl;rw [Nat.add_zero,show ((Kd.slice 3 (Kd.int .i64))).sz = 1 from rfl,Nat.mul_one] at hv588_0;replace hv588_0 := Option.some.inj (hv588_0.symm.trans hx588_0);injection hv588_0 with hva_ hvn_ hvc_;rw [hva_] at ge588_0;rw [hvc_] at ul588_0;have HL588_0 := Aside0.mk (show Kd.V (Kd.int .i64) 3 _ w.heap.size _ _ (rd_L3 t585 0) from Kd.V_mk ul588_0 ge588_0);clear hva_ hvn_ hvc_ ge588_0 ul588_0;clear hcc588 hce588;have qi588 : (0 < t585.length) = True := eq_true (by omega);(try rw [show ((0 : Int)).toNat = 0 from rfl] at hx588_0);(try rw [Addr.add_zero'] at hx588_0);have HR588_0 := Aside0.mk hi588_0;have HC588_0 := Aside0.mk hl588_0;clear hi588_0 hl588_0;replace p588 := eq_true p588;replace q588 := eq_true q588;have p589 : 0 ≤ (0 : Int) := (by omega);have q589 : 0 < (t582.length : Int) := dz;obtain ⟨ad589,e589,hx589_0⟩ := Kd.at_int (Kd.R_reads' HO584.out).2.2 0 p589 q589;cases e589;have qi589 : (0 < t582.length) = True := eq_true (by omega);(try rw [show ((0 : Int)).toNat = 0 from rfl] at hx589_0);(try rw [Addr.add_zero'] at hx589_0);replace p589 := eq_true p589;replace q589 := eq_true q589))
       go_ret
       exact ⟨by first|rfl|(simp [errW_none,errW_some] <;> rfl)|(simp [*,errW_none,errW_some] <;> rfl),bz⟩
      ·rw [if_neg c12] at H
       exact absurd H (by simp)
     ·rw [if_neg c11] at H
      have c11b0 : (((rd_L3 t585 0).length : Int) == 1) = false := beq_eq_false_iff_ne.mpr c11
      have c11b1 : (((rd_L3 t585 0).length : Int) != 1) = true := bne_iff_ne.mpr c11
      obtain rfl := Option.some.inj H
      go_enter Try.func30,Try.ntmps30
      go_wp2_with (first|((with_reducible refine gate_callee (f := 24) rfl ?_);refine goesL_ (some 6) rfl rfl Try.func24 (by kernel_rfl) rfl #[.slice A0 l0.length c0] rfl az ?_;(with_reducible refine (spec_OrdValid.calls k _ _ l0 true _ ?side1 ?side2 A2.out).mono ?_);(case side1 => exact Kd.Cz HR0.out);(case side2 => exact HC0.out);rintro e w17 ⟨rfl,hb⟩;refine ⟨_,rfl,?_⟩;have n0_ := Aside0.mk (below_step bz hb);clear HB;have HB := n0_;clear n0_;(try clear hb);(try clear hb2);(try clear hk);(try clear hi))|((with_reducible refine gate_callee (f := 65) rfl ?_);refine goesL_ (some 10) rfl rfl Try.func65 (by kernel_rfl) rfl #[.slice A0 l0.length c0] rfl az ?_;(with_reducible refine (spec_l1Terms.calls k (fun k_ => k_ < w.heap.size) _ _ l0 t582 t585 _ ?side1 A4.out).mono ?_);(case side1 => exact Kd.V_mk HC0.out (Kd.F_below (Kd.C_F (Kd.heap_int .i64) HR0.out) bz));rintro e w18 ⟨v583,v586,rfl,ho0,ho1,hb⟩;refine ⟨_,rfl,?_⟩;have n0_ := Aside0.mk (Kd.R_lower (Kd.R_mono (ok' := fun k_ => True) ho0 (fun _ hk_ => trivial)) (below_size bz));have n1_ := Aside0.mk (Kd.N_lower (Kd.N_mono (ok' := fun k_ => some k_ ≠ (v583 : Value).ownBlock) ho1 (fun k_ hk_ => hk_.2)) (below_size bz));have n2_ := Aside0.mk (below_step bz hb);clear HB;have HO584 := n0_;have HO587 := n1_;have HB := n2_;clear n0_ n1_ n2_;(try clear hb);(try clear hb2);(try clear hk);(try clear hi);(try clear ho0);(try clear ho1);obtain ⟨Ao19,co19,eo19⟩ := Kd.R_slice HO584.out;subst eo19;obtain ⟨Ao20,co20,eo20⟩ := Kd.N_slice HO587.out;subst eo20;have p588 : 0 ≤ (0 : Int) := (by omega);have q588 : 0 < (t585.length : Int) := dz;obtain ⟨ad588,A588_0,c588_0,e588,hx588_0,hl588_0,hi588_0⟩ := at_L3 (Kd.N_reads' HO587.out).2.2 0 p588 q588;cases e588;obtain ⟨ce588,hce588,hMe588,hcc588⟩ := Kd.N_get HO587.out [] 0 p588 (by first|exact q588|exact dz|(have e_ := (Kd.N_reads' HO587.out).1;omega));obtain ⟨ua588_0,uc588_0,rfl,ul588_0,ge588_0⟩ := Kd.FK_slice_open hMe588;have hv588_0 := hcc588 0 _ rfl;rw [Nat.add_zero,show ((Kd.slice 3 (Kd.int .i64))).sz = 1 from rfl,Nat.mul_one] at hv588_0;replace hv588_0 := Option.some.inj (hv588_0.symm.trans hx588_0);injection hv588_0 with hva_ hvn_ hvc_;rw [hva_] at ge588_0;rw [hvc_] at ul588_0;have HL588_0 := Aside0.mk (show Kd.V (Kd.int .i64) 3 _ w.heap.size _ _ (rd_L3 t585 0) from Kd.V_mk ul588_0 ge588_0);clear hva_ hvn_ hvc_ ge588_0 ul588_0;clear hcc588 hce588;have qi588 : (0 < t585.length) = True := eq_true (by omega);(try rw [show ((0 : Int)).toNat = 0 from rfl] at hx588_0);(try rw [Addr.add_zero'] at hx588_0);have HR588_0 := Aside0.mk hi588_0;have HC588_0 := Aside0.mk hl588_0;clear hi588_0 hl588_0;replace p588 := eq_true p588;replace q588 := eq_true q588))
      go_ret
      exact ⟨by first|rfl|(simp [errW_none,errW_some] <;> rfl)|(simp [*,errW_none,errW_some] <;> rfl),bz⟩
    ·rw [if_neg c10] at H
     exact absurd H (by simp)
   ·rw [if_neg c9] at H
    have c9b0 : ((t582.length : Int) == 1) = false := beq_eq_false_iff_ne.mpr c9
    have c9b1 : ((t582.length : Int) != 1) = true := bne_iff_ne.mpr c9
    obtain rfl := Option.some.inj H
    go_enter Try.func30,Try.ntmps30
    go_wp2_with (first|((with_reducible refine gate_callee (f := 24) rfl ?_);refine goesL_ (some 6) rfl rfl Try.func24 (by kernel_rfl) rfl #[.slice A0 l0.length c0] rfl az ?_;(with_reducible refine (spec_OrdValid.calls k _ _ l0 true _ ?side1 ?side2 A2.out).mono ?_);(case side1 => exact Kd.Cz HR0.out);(case side2 => exact HC0.out);rintro e w21 ⟨rfl,hb⟩;refine ⟨_,rfl,?_⟩;have n0_ := Aside0.mk (below_step bz hb);clear HB;have HB := n0_;clear n0_;(try clear hb);(try clear hb2);(try clear hk);(try clear hi))|((with_reducible refine gate_callee (f := 65) rfl ?_);refine goesL_ (some 10) rfl rfl Try.func65 (by kernel_rfl) rfl #[.slice A0 l0.length c0] rfl az ?_;(with_reducible refine (spec_l1Terms.calls k (fun k_ => k_ < w.heap.size) _ _ l0 t582 t585 _ ?side1 A4.out).mono ?_);(case side1 => exact Kd.V_mk HC0.out (Kd.F_below (Kd.C_F (Kd.heap_int .i64) HR0.out) bz));rintro e w22 ⟨v583,v586,rfl,ho0,ho1,hb⟩;refine ⟨_,rfl,?_⟩;have n0_ := Aside0.mk (Kd.R_lower (Kd.R_mono (ok' := fun k_ => True) ho0 (fun _ hk_ => trivial)) (below_size bz));have n1_ := Aside0.mk (Kd.N_lower (Kd.N_mono (ok' := fun k_ => some k_ ≠ (v583 : Value).ownBlock) ho1 (fun k_ hk_ => hk_.2)) (below_size bz));have n2_ := Aside0.mk (below_step bz hb);clear HB;have HO584 := n0_;have HO587 := n1_;have HB := n2_;clear n0_ n1_ n2_;(try clear hb);(try clear hb2);(try clear hk);(try clear hi);(try clear ho0);(try clear ho1);obtain ⟨Ao23,co23,eo23⟩ := Kd.R_slice HO584.out;subst eo23))
    go_ret
    exact ⟨by first|rfl|(simp [errW_none,errW_some] <;> rfl)|(simp [*,errW_none,errW_some] <;> rfl),bz⟩
 ·replace c3 := Bool.eq_false_iff.mpr c3
  subst c3
  have H1 : (some (-1)) = some r := by rw [if_neg (show ¬ (false = true) by decide)] at H;exact H
  clear H
  have H := H1
  clear H1
  obtain rfl := Option.some.inj H
  go_enter Try.func30,Try.ntmps30
  go_wp2_with (first|((with_reducible refine gate_callee (f := 24) rfl ?_);refine goesL_ (some 6) rfl rfl Try.func24 (by kernel_rfl) rfl #[.slice A0 l0.length c0] rfl az ?_;(with_reducible refine (spec_OrdValid.calls k _ _ l0 false _ ?side1 ?side2 A2.out).mono ?_);(case side1 => exact Kd.Cz HR0.out);(case side2 => exact HC0.out);rintro e w24 ⟨rfl,hb⟩;refine ⟨_,rfl,?_⟩;have n0_ := Aside0.mk (below_step bz hb);clear HB;have HB := n0_;clear n0_;(try clear hb);(try clear hb2);(try clear hk);(try clear hi)))
  go_ret
  exact ⟨by first|rfl|(simp [errW_none,errW_some] <;> rfl)|(simp [*,errW_none,errW_some] <;> rfl),bz⟩

end Go.Proofs.Ytninfokihgbgpaa.P
