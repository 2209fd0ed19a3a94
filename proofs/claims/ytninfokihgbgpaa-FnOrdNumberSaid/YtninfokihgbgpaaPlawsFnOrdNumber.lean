/- The walk of one Go function that the law reaches: it comes to what the Lean function of its name tells. -/
import Derived.Test.YtninfokihgbgpaaP0
import Derived.Test.YtninfokihgbgpaaPimplOrdCompare
import Derived.Test.YtninfokihgbgpaaPimplOrdNumber
import Derived.Test.YtninfokihgbgpaaPimplOrdOf
import Derived.Test.YtninfokihgbgpaaPlawsalive
import Derived.Test.YtninfokihgbgpaaPlawssameInts
import Derived.Test.YtninfokihgbgpaaPspecDrawOrdNumber
import Derived.Test.YtninfokihgbgpaaPspecOrdNumber
import Derived.Test.YtninfokihgbgpaaPspecOrdValid
namespace Go.Proofs.Ytninfokihgbgpaa.P
open Go.RowKit Go.Proofs.YtninfokihgbgpaaW.PrintWords Go.Proofs.YtninfokihgbgpaaW.PrintLast Go.Proofs.YtninfokihgbgpaaW.PrintMore
attribute [local go_sem] max2_int min2_int max_two min_two max_three min_three max_four min_four   
set_option linter.unusedVariables false
set_option linter.unusedSimpArgs false

/-! ### laws_FnOrdNumber: function 6 -/
def laws_FnOrdNumber.f (k : Nat) (l0 : List Int) : Option (Bool) := if (l0.length : Int) > 1048576 then (some true) else ((spec_DrawOrdNumber.f k l0).bind fun t590 => ((impl_OrdNumber.f k t590).bind fun t593 => ((spec_OrdNumber.f k t590).bind fun t594 => (if t593 = t594 then ((spec_OrdValid.f k t590).bind fun t595 => (if t595 = true then (if t593 < 0 then (if t593 = (-1) then ((impl_OrdOf.f k 9999).bind fun t597 => ((impl_OrdCompare.f k t590 t597).bind fun t600 => (some (t600 == 1)))) else (some false)) else ((impl_OrdOf.f k t593).bind fun t601 => ((laws_sameInts.f k t601 t590).bind fun t604 => (some t604)))) else (if t593 = (-1) then ((laws_alive.f k).bind fun t596 => (some t596)) else (some false)))) else (some false)))))
theorem laws_FnOrdNumber.mono : ∀ a0 k,LeO (laws_FnOrdNumber.f k a0) (laws_FnOrdNumber.f (k + 1) a0) := by
 intro a0 k
 unfold laws_FnOrdNumber.f
 repeat' first|(with_reducible first|exact impl_OrdCompare.mono _ _ _|exact impl_OrdNumber.mono _ _|exact impl_OrdOf.mono _ _|exact laws_alive.mono _|exact laws_sameInts.mono _ _ _|exact spec_DrawOrdNumber.mono _ _|exact spec_OrdNumber.mono _ _|exact spec_OrdValid.mono _ _|exact LeO.refl _|exact LeO.none _|refine LeO.ite ?_ ?_|refine LeO.bind ?_ (fun _ => ?_))|exact impl_OrdCompare.mono _ _ _|exact impl_OrdNumber.mono _ _|exact impl_OrdOf.mono _ _|exact laws_alive.mono _|exact laws_sameInts.mono _ _ _|exact spec_DrawOrdNumber.mono _ _|exact spec_OrdNumber.mono _ _|exact spec_OrdValid.mono _ _|exact LeO.none _|refine LeO.ite ?_ ?_|refine LeO.bind ?_ (fun _ => ?_)
set_option maxHeartbeats 8000000 in
set_option maxRecDepth 100000 in
theorem laws_FnOrdNumber.calls (k : Nat) (A0 : Option Addr) (c0 : Nat) (l0 : List Int) (r : Bool) (w : World) (hr0 : Kd.C (Kd.int .u8) w A0 l0.length l0) (hc0 : l0.length ≤ c0) (h : laws_FnOrdNumber.f k l0 = some r) :
  Calls Try.prog 6 #[.slice A0 l0.length c0] w fun e w' => e = .returned (.bool r) ∧ Below w.heap.size w w' := by
 have HR0 := Aside0.mk hr0
 have HC0 := Aside0.mk hc0
 clear hr0 hc0
 have HB := Aside0.mk (Below.refl w.heap.size w)
 have H : (if (l0.length : Int) > 1048576 then (some true) else ((spec_DrawOrdNumber.f k l0).bind fun t590 => ((impl_OrdNumber.f k t590).bind fun t593 => ((spec_OrdNumber.f k t590).bind fun t594 => (if t593 = t594 then ((spec_OrdValid.f k t590).bind fun t595 => (if t595 = true then (if t593 < 0 then (if t593 = (-1) then ((impl_OrdOf.f k 9999).bind fun t597 => ((impl_OrdCompare.f k t590 t597).bind fun t600 => (some (t600 == 1)))) else (some false)) else ((impl_OrdOf.f k t593).bind fun t601 => ((laws_sameInts.f k t601 t590).bind fun t604 => (some t604)))) else (if t593 = (-1) then ((laws_alive.f k).bind fun t596 => (some t596)) else (some false)))) else (some false)))))) = some r := h
 clear h
 by_cases c2 : (l0.length : Int) > 1048576
 ·rw [if_pos c2] at H
  have c2b0 : decide (1048576 < (l0.length : Int)) = true := decide_eq_true c2
  have c2b1 : decide (1048576 < l0.length) = true := decide_eq_true (by omega)
  clear c2
  obtain rfl := Option.some.inj H
  go_enter Try.func6,Try.ntmps6
  go_wp2
  go_ret
  exact ⟨by first|rfl|(simp [errW_none,errW_some] <;> rfl)|(simp [*,errW_none,errW_some] <;> rfl),bz⟩
 ·rw [if_neg c2] at H
  have c2b0 : decide (1048576 < (l0.length : Int)) = false := decide_eq_false c2
  have c2b1 : decide (1048576 < l0.length) = false := decide_eq_false (by omega)
  clear c2
  replace H := Option.bind_eq_some_iff.mp H
  obtain ⟨t590,A30,H⟩ := H
  replace H : ((impl_OrdNumber.f k t590).bind fun t593 => ((spec_OrdNumber.f k t590).bind fun t594 => (if t593 = t594 then ((spec_OrdValid.f k t590).bind fun t595 => (if t595 = true then (if t593 < 0 then (if t593 = (-1) then ((impl_OrdOf.f k 9999).bind fun t597 => ((impl_OrdCompare.f k t590 t597).bind fun t600 => (some (t600 == 1)))) else (some false)) else ((impl_OrdOf.f k t593).bind fun t601 => ((laws_sameInts.f k t601 t590).bind fun t604 => (some t604)))) else (if t593 = (-1) then ((laws_alive.f k).bind fun t596 => (some t596)) else (some false)))) else (some false)))) = some r := H
  have A3 := Aside0.mk A30
  clear A30
  replace H := Option.bind_eq_some_iff.mp H
  obtain ⟨t593,A40,H⟩ := H
  replace H : ((spec_OrdNumber.f k t590).bind fun t594 => (if t593 = t594 then ((spec_OrdValid.f k t590).bind fun t595 => (if t595 = true then (if t593 < 0 then (if t593 = (-1) then ((impl_OrdOf.f k 9999).bind fun t597 => ((impl_OrdCompare.f k t590 t597).bind fun t600 => (some (t600 == 1)))) else (some false)) else ((impl_OrdOf.f k t593).bind fun t601 => ((laws_sameInts.f k t601 t590).bind fun t604 => (some t604)))) else (if t593 = (-1) then ((laws_alive.f k).bind fun t596 => (some t596)) else (some false)))) else (some false))) = some r := H
  have A4 := Aside0.mk A40
  clear A40
  replace H := Option.bind_eq_some_iff.mp H
  obtain ⟨t594,A50,H⟩ := H
  replace H : (if t593 = t594 then ((spec_OrdValid.f k t590).bind fun t595 => (if t595 = true then (if t593 < 0 then (if t593 = (-1) then ((impl_OrdOf.f k 9999).bind fun t597 => ((impl_OrdCompare.f k t590 t597).bind fun t600 => (some (t600 == 1)))) else (some false)) else ((impl_OrdOf.f k t593).bind fun t601 => ((laws_sameInts.f k t601 t590).bind fun t604 => (some t604)))) else (if t593 = (-1) then ((laws_alive.f k).bind fun t596 => (some t596)) else (some false)))) else (some false)) = some r := H
  have A5 := Aside0.mk A50
  clear A50
  by_cases c6 : t593 = t594
  ·rw [if_pos c6] at H
   have c6b0 : (t593 == t594) = true := beq_iff_eq.mpr c6
   have c6b1 : (t593 != t594) = false := bne_eq_false_iff_eq.mpr c6
   clear c6
   replace H := Option.bind_eq_some_iff.mp H
   obtain ⟨t595,A70,H⟩ := H
   replace H : (if t595 = true then (if t593 < 0 then (if t593 = (-1) then ((impl_OrdOf.f k 9999).bind fun t597 => ((impl_OrdCompare.f k t590 t597).bind fun t600 => (some (t600 == 1)))) else (some false)) else ((impl_OrdOf.f k t593).bind fun t601 => ((laws_sameInts.f k t601 t590).bind fun t604 => (some t604)))) else (if t593 = (-1) then ((laws_alive.f k).bind fun t596 => (some t596)) else (some false))) = some r := H
   have A7 := Aside0.mk A70
   clear A70
   by_cases c8 : t595 = true
   ·subst c8
    have H1 : (if t593 < 0 then (if t593 = (-1) then ((impl_OrdOf.f k 9999).bind fun t597 => ((impl_OrdCompare.f k t590 t597).bind fun t600 => (some (t600 == 1)))) else (some false)) else ((impl_OrdOf.f k t593).bind fun t601 => ((laws_sameInts.f k t601 t590).bind fun t604 => (some t604)))) = some r := by rw [if_pos rfl] at H;exact H
    clear H
    have H := H1
    clear H1
    by_cases c9 : t593 < 0
    ·rw [if_pos c9] at H
     have c9b0 : decide (t593 < 0) = true := decide_eq_true c9
     clear c9
     by_cases c10 : t593 = (-1)
     ·rw [if_pos c10] at H
      have c10b0 : (t593 == (-1)) = true := beq_iff_eq.mpr c10
      have c10b1 : (t593 != (-1)) = false := bne_eq_false_iff_eq.mpr c10
      clear c10
      replace H := Option.bind_eq_some_iff.mp H
      obtain ⟨t597,A110,H⟩ := H
      replace H : ((impl_OrdCompare.f k t590 t597).bind fun t600 => (some (t600 == 1))) = some r := H
      have A11 := Aside0.mk A110
      clear A110
      replace H := Option.bind_eq_some_iff.mp H
      obtain ⟨t600,A120,H⟩ := H
      replace H : (some (t600 == 1)) = some r := H
      have A12 := Aside0.mk A120
      clear A120
      obtain rfl := Option.some.inj H
      go_enter Try.func6,Try.ntmps6
      go_wp2_with (first|((with_reducible refine gate_callee (f := 29) rfl ?_);refine goesL_ (some 9) rfl rfl Try.func29 (by kernel_rfl) rfl #[.slice A0 l0.length c0] rfl az ?_;(with_reducible refine (spec_DrawOrdNumber.calls k _ _ l0 t590 _ ?side1 ?side2 A3.out).mono ?_);(case side1 => exact Kd.Cz HR0.out);(case side2 => exact HC0.out);rintro e w13 ⟨v591,rfl,ho0,hb⟩;refine ⟨_,rfl,?_⟩;have n0_ := Aside0.mk (Kd.R_lower ho0 (below_size bz));have n1_ := Aside0.mk (below_step bz hb);clear HB;have HO592 := n0_;have HB := n1_;clear n0_ n1_;(try clear hb);(try clear hb2);(try clear hk);(try clear hi);(try clear ho0);obtain ⟨Ao14,co14,eo14⟩ := Kd.R_slice HO592.out;subst eo14)|((with_reducible refine gate_callee (f := 22) rfl ?_);refine goesL_ (some 11) rfl rfl Try.func22 (by kernel_rfl) rfl #[.slice Ao14 t590.length co14] rfl az ?_;(with_reducible refine (impl_OrdNumber.calls k _ _ t590 t593 _ ?side1 ?side2 A4.out).mono ?_);(case side1 => exact Kd.Cz (Kd.R_reads' HO592.out).2.2);(case side2 => exact (Kd.R_reads' HO592.out).2.1);rintro e w15 ⟨rfl,hb⟩;refine ⟨_,rfl,?_⟩;have n0_ := Aside0.mk (Kd.R_below (Kd.Rz HO592.out) hb);have n1_ := Aside0.mk (below_step bz hb);clear HO592;clear HB;have HO592 := n0_;have HB := n1_;clear n0_ n1_;(try clear hb);(try clear hb2);(try clear hk);(try clear hi))|((with_reducible refine gate_callee (f := 30) rfl ?_);refine goesL_ (some 14) rfl rfl Try.func30 (by kernel_rfl) rfl #[.slice Ao14 t590.length co14] rfl az ?_;(with_reducible refine (spec_OrdNumber.calls k _ _ t590 t594 _ ?side1 ?side2 A5.out).mono ?_);(case side1 => exact Kd.Cz (Kd.R_reads' HO592.out).2.2);(case side2 => exact (Kd.R_reads' HO592.out).2.1);rintro e w16 ⟨rfl,hb⟩;refine ⟨_,rfl,?_⟩;have n0_ := Aside0.mk (Kd.R_below (Kd.Rz HO592.out) hb);have n1_ := Aside0.mk (below_step bz hb);clear HO592;clear HB;have HO592 := n0_;have HB := n1_;clear n0_ n1_;(try clear hb);(try clear hb2);(try clear hk);(try clear hi))|((with_reducible refine gate_callee (f := 24) rfl ?_);refine goesL_ (some 17) rfl rfl Try.func24 (by kernel_rfl) rfl #[.slice Ao14 t590.length co14] rfl az ?_;(with_reducible refine (spec_OrdValid.calls k _ _ t590 true _ ?side1 ?side2 A7.out).mono ?_);(case side1 => exact Kd.Cz (Kd.R_reads' HO592.out).2.2);(case side2 => exact (Kd.R_reads' HO592.out).2.1);rintro e w17 ⟨rfl,hb⟩;refine ⟨_,rfl,?_⟩;have n0_ := Aside0.mk (Kd.R_below (Kd.Rz HO592.out) hb);have n1_ := Aside0.mk (below_step bz hb);clear HO592;clear HB;have HO592 := n0_;have HB := n1_;clear n0_ n1_;(try clear hb);(try clear hb2);(try clear hk);(try clear hi))|(go_at_call 16;(with_reducible refine (impl_OrdOf.calls k 9999 t597 _ A11.out).mono ?_);rintro e w18 ⟨v598,rfl,ho0,hb⟩;have n0_ := Aside0.mk (Kd.R_elder' (Kd.Rz HO592.out) (Kd.R_base ho0) hb);have n1_ := Aside0.mk (Kd.R_lower (Kd.R_new' ho0 (Kd.R_lt (Kd.Rz HO592.out))) (below_size bz));have n2_ := Aside0.mk (below_step bz hb);clear HO592;clear HB;have HO592 := n0_;have HO599 := n1_;have HB := n2_;clear n0_ n1_ n2_;(try clear hb);(try clear hb2);(try clear hk);(try clear hi);(try clear ho0);obtain ⟨Ao19,co19,eo19⟩ := Kd.R_slice HO599.out;subst eo19)|(go_at_call 28;(with_reducible refine (impl_OrdCompare.calls k _ _ t590 _ _ t597 t600 _ ?side1 ?side2 ?side3 ?side4 A12.out).mono ?_);(case side1 => exact Kd.Cz (Kd.R_reads' HO592.out).2.2);(case side2 => exact (Kd.R_reads' HO592.out).2.1);(case side3 => exact Kd.Cz (Kd.R_reads' HO599.out).2.2);(case side4 => exact (Kd.R_reads' HO599.out).2.1);rintro e w20 ⟨rfl,hb⟩;have n0_ := Aside0.mk (Kd.R_below (Kd.Rz HO592.out) hb);have n1_ := Aside0.mk (Kd.R_below (Kd.Rz HO599.out) hb);have n2_ := Aside0.mk (below_step bz hb);clear HO592;clear HO599;clear HB;have HO592 := n0_;have HO599 := n1_;have HB := n2_;clear n0_ n1_ n2_;(try clear hb);(try clear hb2);(try clear hk);(try clear hi)))
      go_ret
      exact ⟨by first|rfl|(simp [errW_none,errW_some] <;> rfl)|(simp [*,errW_none,errW_some] <;> rfl),bz⟩
     ·rw [if_neg c10] at H
      have c10b0 : (t593 == (-1)) = false := beq_eq_false_iff_ne.mpr c10
      have c10b1 : (t593 != (-1)) = true := bne_iff_ne.mpr c10
      obtain rfl := Option.some.inj H
      go_enter Try.func6,Try.ntmps6
      go_wp2_with (first|((with_reducible refine gate_callee (f := 29) rfl ?_);refine goesL_ (some 9) rfl rfl Try.func29 (by kernel_rfl) rfl #[.slice A0 l0.length c0] rfl az ?_;(with_reducible refine (spec_DrawOrdNumber.calls k _ _ l0 t590 _ ?side1 ?side2 A3.out).mono ?_);(case side1 => exact Kd.Cz HR0.out);(case side2 => exact HC0.out);rintro e w21 ⟨v591,rfl,ho0,hb⟩;refine ⟨_,rfl,?_⟩;have n0_ := Aside0.mk (Kd.R_lower ho0 (below_size bz));have n1_ := Aside0.mk (below_step bz hb);clear HB;have HO592 := n0_;have HB := n1_;clear n0_ n1_;(try clear hb);(try clear hb2);(try clear hk);(try clear hi);(try clear ho0);obtain ⟨Ao22,co22,eo22⟩ := Kd.R_slice HO592.out;subst eo22)|((with_reducible refine gate_callee (f := 22) rfl ?_);refine goesL_ (some 11) rfl rfl Try.func22 (by kernel_rfl) rfl #[.slice Ao22 t590.length co22] rfl az ?_;(with_reducible refine (impl_OrdNumber.calls k _ _ t590 t593 _ ?side1 ?side2 A4.out).mono ?_);(case side1 => exact Kd.Cz (Kd.R_reads' HO592.out).2.2);(case side2 => exact (Kd.R_reads' HO592.out).2.1);rintro e w23 ⟨rfl,hb⟩;refine ⟨_,rfl,?_⟩;have n0_ := Aside0.mk (Kd.R_below (Kd.Rz HO592.out) hb);have n1_ := Aside0.mk (below_step bz hb);clear HO592;clear HB;have HO592 := n0_;have HB := n1_;clear n0_ n1_;(try clear hb);(try clear hb2);(try clear hk);(try clear hi))|((with_reducible refine gate_callee (f := 30) rfl ?_);refine goesL_ (some 14) rfl rfl Try.func30 (by kernel_rfl) rfl #[.slice Ao22 t590.length co22] rfl az ?_;(with_reducible refine (spec_OrdNumber.calls k _ _ t590 t594 _ ?side1 ?side2 A5.out).mono ?_);(case side1 => exact Kd.Cz (Kd.R_reads' HO592.out).2.2);(case side2 => exact (Kd.R_reads' HO592.out).2.1);rintro e w24 ⟨rfl,hb⟩;refine ⟨_,rfl,?_⟩;have n0_ := Aside0.mk (Kd.R_below (Kd.Rz HO592.out) hb);have n1_ := Aside0.mk (below_step bz hb);clear HO592;clear HB;have HO592 := n0_;have HB := n1_;clear n0_ n1_;(try clear hb);(try clear hb2);(try clear hk);(try clear hi))|((with_reducible refine gate_callee (f := 24) rfl ?_);refine goesL_ (some 17) rfl rfl Try.func24 (by kernel_rfl) rfl #[.slice Ao22 t590.length co22] rfl az ?_;(with_reducible refine (spec_OrdValid.calls k _ _ t590 true _ ?side1 ?side2 A7.out).mono ?_);(case side1 => exact Kd.Cz (Kd.R_reads' HO592.out).2.2);(case side2 => exact (Kd.R_reads' HO592.out).2.1);rintro e w25 ⟨rfl,hb⟩;refine ⟨_,rfl,?_⟩;have n0_ := Aside0.mk (Kd.R_below (Kd.Rz HO592.out) hb);have n1_ := Aside0.mk (below_step bz hb);clear HO592;clear HB;have HO592 := n0_;have HB := n1_;clear n0_ n1_;(try clear hb);(try clear hb2);(try clear hk);(try clear hi)))
      go_ret
      exact ⟨by first|rfl|(simp [errW_none,errW_some] <;> rfl)|(simp [*,errW_none,errW_some] <;> rfl),bz⟩
    ·rw [if_neg c9] at H
     have c9b0 : decide (t593 < 0) = false := decide_eq_false c9
     clear c9
     replace H := Option.bind_eq_some_iff.mp H
     obtain ⟨t601,A260,H⟩ := H
     replace H : ((laws_sameInts.f k t601 t590).bind fun t604 => (some t604)) = some r := H
     have A26 := Aside0.mk A260
     clear A260
     replace H := Option.bind_eq_some_iff.mp H
     obtain ⟨t604,A270,H⟩ := H
     replace H : (some t604) = some r := H
     have A27 := Aside0.mk A270
     clear A270
     obtain rfl := Option.some.inj H
     go_enter Try.func6,Try.ntmps6
     go_wp2_with (first|((with_reducible refine gate_callee (f := 29) rfl ?_);refine goesL_ (some 9) rfl rfl Try.func29 (by kernel_rfl) rfl #[.slice A0 l0.length c0] rfl az ?_;(with_reducible refine (spec_DrawOrdNumber.calls k _ _ l0 t590 _ ?side1 ?side2 A3.out).mono ?_);(case side1 => exact Kd.Cz HR0.out);(case side2 => exact HC0.out);rintro e w28 ⟨v591,rfl,ho0,hb⟩;refine ⟨_,rfl,?_⟩;have n0_ := Aside0.mk (Kd.R_lower ho0 (below_size bz));have n1_ := Aside0.mk (below_step bz hb);clear HB;have HO592 := n0_;have HB := n1_;clear n0_ n1_;(try clear hb);(try clear hb2);(try clear hk);(try clear hi);(try clear ho0);obtain ⟨Ao29,co29,eo29⟩ := Kd.R_slice HO592.out;subst eo29)|((with_reducible refine gate_callee (f := 22) rfl ?_);refine goesL_ (some 11) rfl rfl Try.func22 (by kernel_rfl) rfl #[.slice Ao29 t590.length co29] rfl az ?_;(with_reducible refine (impl_OrdNumber.calls k _ _ t590 t593 _ ?side1 ?side2 A4.out).mono ?_);(case side1 => exact Kd.Cz (Kd.R_reads' HO592.out).2.2);(case side2 => exact (Kd.R_reads' HO592.out).2.1);rintro e w30 ⟨rfl,hb⟩;refine ⟨_,rfl,?_⟩;have n0_ := Aside0.mk (Kd.R_below (Kd.Rz HO592.out) hb);have n1_ := Aside0.mk (below_step bz hb);clear HO592;clear HB;have HO592 := n0_;have HB := n1_;clear n0_ n1_;(try clear hb);(try clear hb2);(try clear hk);(try clear hi))|((with_reducible refine gate_callee (f := 30) rfl ?_);refine goesL_ (some 14) rfl rfl Try.func30 (by kernel_rfl) rfl #[.slice Ao29 t590.length co29] rfl az ?_;(with_reducible refine (spec_OrdNumber.calls k _ _ t590 t594 _ ?side1 ?side2 A5.out).mono ?_);(case side1 => exact Kd.Cz (Kd.R_reads' HO592.out).2.2);(case side2 => exact (Kd.R_reads' HO592.out).2.1);rintro e w31 ⟨rfl,hb⟩;refine ⟨_,rfl,?_⟩;have n0_ := Aside0.mk (Kd.R_below (Kd.Rz HO592.out) hb);have n1_ := Aside0.mk (below_step bz hb);clear HO592;clear HB;have HO592 := n0_;have HB := n1_;clear n0_ n1_;(try clear hb);(try clear hb2);(try clear hk);(try clear hi))|((with_reducible refine gate_callee (f := 24) rfl ?_);refine goesL_ (some 17) rfl rfl Try.func24 (by kernel_rfl) rfl #[.slice Ao29 t590.length co29] rfl az ?_;(with_reducible refine (spec_OrdValid.calls k _ _ t590 true _ ?side1 ?side2 A7.out).mono ?_);(case side1 => exact Kd.Cz (Kd.R_reads' HO592.out).2.2);(case side2 => exact (Kd.R_reads' HO592.out).2.1);rintro e w32 ⟨rfl,hb⟩;refine ⟨_,rfl,?_⟩;have n0_ := Aside0.mk (Kd.R_below (Kd.Rz HO592.out) hb);have n1_ := Aside0.mk (below_step bz hb);clear HO592;clear HB;have HO592 := n0_;have HB := n1_;clear n0_ n1_;(try clear hb);(try clear hb2);(try clear hk);(try clear hi))|((with_reducible refine gate_callee (f := 16) rfl ?_);refine goesL_ (some 35) rfl rfl Try.func16 (by kernel_rfl) rfl #[.int .i64 t593] rfl az ?_;(with_reducible refine (impl_OrdOf.calls k t593 t601 _ A26.out).mono ?_);rintro e w33 ⟨v602,rfl,ho0,hb⟩;refine ⟨_,rfl,?_⟩;have n0_ := Aside0.mk (Kd.R_elder' (Kd.Rz HO592.out) (Kd.R_base ho0) hb);have n1_ := Aside0.mk (Kd.R_lower (Kd.R_new' ho0 (Kd.R_lt (Kd.Rz HO592.out))) (below_size bz));have n2_ := Aside0.mk (below_step bz hb);clear HO592;clear HB;have HO592 := n0_;have HO603 := n1_;have HB := n2_;clear n0_ n1_ n2_;(try clear hb);(try clear hb2);(try clear hk);(try clear hi);(try clear ho0);obtain ⟨Ao34,co34,eo34⟩ := Kd.R_slice HO603.out;subst eo34)|((with_reducible refine gate_callee (f := 17) rfl ?_);refine goesL_ (some 37) rfl rfl Try.func17 (by kernel_rfl) rfl #[.slice Ao34 t601.length co34,.slice Ao29 t590.length co29] rfl az ?_;(with_reducible refine (laws_sameInts.calls k _ _ t601 _ _ t590 t604 _ ?side1 ?side2 ?side3 ?side4 A27.out).mono ?_);(case side1 => exact Kd.Cz (Kd.R_reads' HO603.out).2.2);(case side2 => exact (Kd.R_reads' HO603.out).2.1);(case side3 => exact Kd.Cz (Kd.R_reads' HO592.out).2.2);(case side4 => exact (Kd.R_reads' HO592.out).2.1);rintro e w' ⟨rfl,⟨nd,rfl⟩⟩;refine ⟨_,rfl,?_⟩))
     go_ret
     exact ⟨by first|rfl|(simp [errW_none,errW_some] <;> rfl)|(simp [*,errW_none,errW_some] <;> rfl),bz⟩
   ·replace c8 := Bool.eq_false_iff.mpr c8
    subst c8
    have H1 : (if t593 = (-1) then ((laws_alive.f k).bind fun t596 => (some t596)) else (some false)) = some r := by rw [if_neg (show ¬ (false = true) by decide)] at H;exact H
    clear H
    have H := H1
    clear H1
    by_cases c35 : t593 = (-1)
    ·rw [if_pos c35] at H
     have c35b0 : (t593 == (-1)) = true := beq_iff_eq.mpr c35
     have c35b1 : (t593 != (-1)) = false := bne_eq_false_iff_eq.mpr c35
     clear c35
     replace H := Option.bind_eq_some_iff.mp H
     obtain ⟨t596,A360,H⟩ := H
     replace H : (some t596) = some r := H
     have A36 := Aside0.mk A360
     clear A360
     obtain rfl := Option.some.inj H
     go_enter Try.func6,Try.ntmps6
     go_wp2_with (first|((with_reducible refine gate_callee (f := 29) rfl ?_);refine goesL_ (some 9) rfl rfl Try.func29 (by kernel_rfl) rfl #[.slice A0 l0.length c0] rfl az ?_;(with_reducible refine (spec_DrawOrdNumber.calls k _ _ l0 t590 _ ?side1 ?side2 A3.out).mono ?_);(case side1 => exact Kd.Cz HR0.out);(case side2 => exact HC0.out);rintro e w37 ⟨v591,rfl,ho0,hb⟩;refine ⟨_,rfl,?_⟩;have n0_ := Aside0.mk (Kd.R_lower ho0 (below_size bz));have n1_ := Aside0.mk (below_step bz hb);clear HB;have HO592 := n0_;have HB := n1_;clear n0_ n1_;(try clear hb);(try clear hb2);(try clear hk);(try clear hi);(try clear ho0);obtain ⟨Ao38,co38,eo38⟩ := Kd.R_slice HO592.out;subst eo38)|((with_reducible refine gate_callee (f := 22) rfl ?_);refine goesL_ (some 11) rfl rfl Try.func22 (by kernel_rfl) rfl #[.slice Ao38 t590.length co38] rfl az ?_;(with_reducible refine (impl_OrdNumber.calls k _ _ t590 t593 _ ?side1 ?side2 A4.out).mono ?_);(case side1 => exact Kd.Cz (Kd.R_reads' HO592.out).2.2);(case side2 => exact (Kd.R_reads' HO592.out).2.1);rintro e w39 ⟨rfl,hb⟩;refine ⟨_,rfl,?_⟩;have n0_ := Aside0.mk (Kd.R_below (Kd.Rz HO592.out) hb);have n1_ := Aside0.mk (below_step bz hb);clear HO592;clear HB;have HO592 := n0_;have HB := n1_;clear n0_ n1_;(try clear hb);(try clear hb2);(try clear hk);(try clear hi))|((with_reducible refine gate_callee (f := 30) rfl ?_);refine goesL_ (some 14) rfl rfl Try.func30 (by kernel_rfl) rfl #[.slice Ao38 t590.length co38] rfl az ?_;(with_reducible refine (spec_OrdNumber.calls k _ _ t590 t594 _ ?side1 ?side2 A5.out).mono ?_);(case side1 => exact Kd.Cz (Kd.R_reads' HO592.out).2.2);(case side2 => exact (Kd.R_reads' HO592.out).2.1);rintro e w40 ⟨rfl,hb⟩;refine ⟨_,rfl,?_⟩;have n0_ := Aside0.mk (Kd.R_below (Kd.Rz HO592.out) hb);have n1_ := Aside0.mk (below_step bz hb);clear HO592;clear HB;have HO592 := n0_;have HB := n1_;clear n0_ n1_;(try clear hb);(try clear hb2);(try clear hk);(try clear hi))|((with_reducible refine gate_callee (f := 24) rfl ?_);refine goesL_ (some 17) rfl rfl Try.func24 (by kernel_rfl) rfl #[.slice Ao38 t590.length co38] rfl az ?_;(with_reducible refine (spec_OrdValid.calls k _ _ t590 false _ ?side1 ?side2 A7.out).mono ?_);(case side1 => exact Kd.Cz (Kd.R_reads' HO592.out).2.2);(case side2 => exact (Kd.R_reads' HO592.out).2.1);rintro e w41 ⟨rfl,hb⟩;refine ⟨_,rfl,?_⟩;have n0_ := Aside0.mk (Kd.R_below (Kd.Rz HO592.out) hb);have n1_ := Aside0.mk (below_step bz hb);clear HO592;clear HB;have HO592 := n0_;have HB := n1_;clear n0_ n1_;(try clear hb);(try clear hb2);(try clear hk);(try clear hi))|(go_at_call 19;(with_reducible refine (laws_alive.calls k  t596 _ A36.out).mono ?_);rintro e w42 ⟨rfl,hb⟩;have n0_ := Aside0.mk (Kd.R_below (Kd.Rz HO592.out) hb);have n1_ := Aside0.mk (below_step bz hb);clear HO592;clear HB;have HO592 := n0_;have HB := n1_;clear n0_ n1_;(try clear hb);(try clear hb2);(try clear hk);(try clear hi)))
     go_ret
     exact ⟨by first|rfl|(simp [errW_none,errW_some] <;> rfl)|(simp [*,errW_none,errW_some] <;> rfl),bz⟩
    ·rw [if_neg c35] at H
     have c35b0 : (t593 == (-1)) = false := beq_eq_false_iff_ne.mpr c35
     have c35b1 : (t593 != (-1)) = true := bne_iff_ne.mpr c35
     obtain rfl := Option.some.inj H
     go_enter Try.func6,Try.ntmps6
     go_wp2_with (first|((with_reducible refine gate_callee (f := 29) rfl ?_);refine goesL_ (some 9) rfl rfl Try.func29 (by kernel_rfl) rfl #[.slice A0 l0.length c0] rfl az ?_;(with_reducible refine (spec_DrawOrdNumber.calls k _ _ l0 t590 _ ?side1 ?side2 A3.out).mono ?_);(case side1 => exact Kd.Cz HR0.out);(case side2 => exact HC0.out);rintro e w43 ⟨v591,rfl,ho0,hb⟩;refine ⟨_,rfl,?_⟩;have n0_ := Aside0.mk (Kd.R_lower ho0 (below_size bz));have n1_ := Aside0.mk (below_step bz hb);clear HB;have HO592 := n0_;have HB := n1_;clear n0_ n1_;(try clear hb);(try clear hb2);(try clear hk);(try clear hi);(try clear ho0);obtain ⟨Ao44,co44,eo44⟩ := Kd.R_slice HO592.out;subst eo44)|((with_reducible refine gate_callee (f := 22) rfl ?_);refine goesL_ (some 11) rfl rfl Try.func22 (by kernel_rfl) rfl #[.slice Ao44 t590.length co44] rfl az ?_;(with_reducible refine (impl_OrdNumber.calls k _ _ t590 t593 _ ?side1 ?side2 A4.out).mono ?_);(case side1 => exact Kd.Cz (Kd.R_reads' HO592.out).2.2);(case side2 => exact (Kd.R_reads' HO592.out).2.1);rintro e w45 ⟨rfl,hb⟩;refine ⟨_,rfl,?_⟩;have n0_ := Aside0.mk (Kd.R_below (Kd.Rz HO592.out) hb);have n1_ := Aside0.mk (below_step bz hb);clear HO592;clear HB;have HO592 := n0_;have HB := n1_;clear n0_ n1_;(try clear hb);(try clear hb2);(try clear hk);(try clear hi))|((with_reducible refine gate_callee (f := 30) rfl ?_);refine goesL_ (some 14) rfl rfl Try.func30 (by kernel_rfl) rfl #[.slice Ao44 t590.length co44] rfl az ?_;(with_reducible refine (spec_OrdNumber.calls k _ _ t590 t594 _ ?side1 ?side2 A5.out).mono ?_);(case side1 => exact Kd.Cz (Kd.R_reads' HO592.out).2.2);(case side2 => exact (Kd.R_reads' HO592.out).2.1);rintro e w46 ⟨rfl,hb⟩;refine ⟨_,rfl,?_⟩;have n0_ := Aside0.mk (Kd.R_below (Kd.Rz HO592.out) hb);have n1_ := Aside0.mk (below_step bz hb);clear HO592;clear HB;have HO592 := n0_;have HB := n1_;clear n0_ n1_;(try clear hb);(try clear hb2);(try clear hk);(try clear hi))|((with_reducible refine gate_callee (f := 24) rfl ?_);refine goesL_ (some 17) rfl rfl Try.func24 (by kernel_rfl) rfl #[.slice Ao44 t590.length co44] rfl az ?_;(with_reducible refine (spec_OrdValid.calls k _ _ t590 false _ ?side1 ?side2 A7.out).mono ?_);(case side1 => exact Kd.Cz (Kd.R_reads' HO592.out).2.2);(case side2 => exact (Kd.R_reads' HO592.out).2.1);rintro e w47 ⟨rfl,hb⟩;refine ⟨_,rfl,?_⟩;have n0_ := Aside0.mk (Kd.R_below (Kd.Rz HO592.out) hb);have n1_ := Aside0.mk (below_step bz hb);clear HO592;clear HB;have HO592 := n0_;have HB := n1_;clear n0_ n1_;(try clear hb);(try clear hb2);(try clear hk);(try clear hi)))
     go_ret
     exact ⟨by first|rfl|(simp [errW_none,errW_some] <;> rfl)|(simp [*,errW_none,errW_some] <;> rfl),bz⟩
  ·rw [if_neg c6] at H
   have c6b0 : (t593 == t594) = false := beq_eq_false_iff_ne.mpr c6
   have c6b1 : (t593 != t594) = true := bne_iff_ne.mpr c6
   obtain rfl := Option.some.inj H
   go_enter Try.func6,Try.ntmps6
   go_wp2_with (first|((with_reducible refine gate_callee (f := 29) rfl ?_);refine goesL_ (some 9) rfl rfl Try.func29 (by kernel_rfl) rfl #[.slice A0 l0.length c0] rfl az ?_;(with_reducible refine (spec_DrawOrdNumber.calls k _ _ l0 t590 _ ?side1 ?side2 A3.out).mono ?_);(case side1 => exact Kd.Cz HR0.out);(case side2 => exact HC0.out);rintro e w48 ⟨v591,rfl,ho0,hb⟩;refine ⟨_,rfl,?_⟩;have n0_ := Aside0.mk (Kd.R_lower ho0 (below_size bz));have n1_ := Aside0.mk (below_step bz hb);clear HB;have HO592 := n0_;have HB := n1_;clear n0_ n1_;(try clear hb);(try clear hb2);(try clear hk);(try clear hi);(try clear ho0);obtain ⟨Ao49,co49,eo49⟩ := Kd.R_slice HO592.out;subst eo49)|((with_reducible refine gate_callee (f := 22) rfl ?_);refine goesL_ (some 11) rfl rfl Try.func22 (by kernel_rfl) rfl #[.slice Ao49 t590.length co49] rfl az ?_;(with_reducible refine (impl_OrdNumber.calls k _ _ t590 t593 _ ?side1 ?side2 A4.out).mono ?_);(case side1 => exact Kd.Cz (Kd.R_reads' HO592.out).2.2);(case side2 => exact (Kd.R_reads' HO592.out).2.1);rintro e w50 ⟨rfl,hb⟩;refine ⟨_,rfl,?_⟩;have n0_ := Aside0.mk (Kd.R_below (Kd.Rz HO592.out) hb);have n1_ := Aside0.mk (below_step bz hb);clear HO592;clear HB;have HO592 := n0_;have HB := n1_;clear n0_ n1_;(try clear hb);(try clear hb2);(try clear hk);(try clear hi))|((with_reducible refine gate_callee (f := 30) rfl ?_);refine goesL_ (some 14) rfl rfl Try.func30 (by kernel_rfl) rfl #[.slice Ao49 t590.length co49] rfl az ?_;(with_reducible refine (spec_OrdNumber.calls k _ _ t590 t594 _ ?side1 ?side2 A5.out).mono ?_);(case side1 => exact Kd.Cz (Kd.R_reads' HO592.out).2.2);(case side2 => exact (Kd.R_reads' HO592.out).2.1);rintro e w51 ⟨rfl,hb⟩;refine ⟨_,rfl,?_⟩;have n0_ := Aside0.mk (Kd.R_below (Kd.Rz HO592.out) hb);have n1_ := Aside0.mk (below_step bz hb);clear HO592;clear HB;have HO592 := n0_;have HB := n1_;clear n0_ n1_;(try clear hb);(try clear hb2);(try clear hk);(try clear hi)))
   go_ret
   exact ⟨by first|rfl|(simp [errW_none,errW_some] <;> rfl)|(simp [*,errW_none,errW_some] <;> rfl),bz⟩

/-- THE ONE PURE STATEMENT of laws_FnOrdNumber: yours. -/
def laws_FnOrdNumber.Pure : Prop := ∀ (l0 : List Int),l0.length ≤ maxLen → l0.length * 1 ≤ 140737488351232 → (∀ x ∈ l0,(Lit.int .u8 x).wf = true) → ∃ k,laws_FnOrdNumber.f k l0 = some true
theorem laws_FnOrdNumber.walk (P : laws_FnOrdNumber.Pure) (a0 : Option Addr) (len0 cap0 : Nat) (z0 : List Int) (w : World) (w0 : (a0 = none ∧ len0 = 0 ∧ cap0 = 0 ∧ z0 = []) ∨ ∃ x,a0 = some x ∧ len0 ≤ cap0 ∧ cap0 ≤ maxLen ∧ z0.length = cap0 ∧ (∀ i,i < z0.length → w.cell? (x.add i) = some (.int .u8 (z0.getD i 0))) ∧ ∀ n ∈ z0,(Lit.int .u8 n).wf = true) (y0 : len0 * 1 ≤ 140737488351232) :
  Calls Try.prog 6 #[.slice a0 len0 cap0] w fun e w' => e = .returned (.bool true) ∧ Below w.heap.size w w' := by
 obtain ⟨l0,rfl,hr0,hm0,hw0,hc0⟩ := ReadsInt.ofRowC w0
 obtain ⟨k,h⟩ := P l0 hm0 y0 hw0
 refine (laws_FnOrdNumber.calls k _ _ l0 true w (Kd.C_of_reads (d := (0 : Int)) (h1 := fun _ => rfl) hr0) hc0 h).mono ?_
 rintro e w' ⟨rfl,hd⟩
 exact ⟨rfl,hd⟩

end Go.Proofs.Ytninfokihgbgpaa.P
