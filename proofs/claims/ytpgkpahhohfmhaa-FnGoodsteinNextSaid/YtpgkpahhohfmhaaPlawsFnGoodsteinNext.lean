/- The walk of one Go function that the law reaches: it comes to what the Lean function of its name tells. -/
import Derived.Test.YtpgkpahhohfmhaaP0
import Derived.Test.YtpgkpahhohfmhaaPimplChangeBase
import Derived.Test.YtpgkpahhohfmhaaPimplGoodsteinNext
import Derived.Test.YtpgkpahhohfmhaaPimplOrdCompare
import Derived.Test.YtpgkpahhohfmhaaPimplOrdInBase
import Derived.Test.YtpgkpahhohfmhaaPlawsalive
import Derived.Test.YtpgkpahhohfmhaaPspecDrawGoodsteinNext
import Derived.Test.YtpgkpahhohfmhaaPspecGoodsteinNext
namespace Go.Proofs.Ytpgkpahhohfmhaa.P
open Go.RowKit Go.Proofs.YtpgkpahhohfmhaaW.PrintWords Go.Proofs.YtpgkpahhohfmhaaW.PrintLast Go.Proofs.YtpgkpahhohfmhaaW.PrintMore
attribute [local go_sem] max2_int min2_int max_two min_two max_three min_three max_four min_four   
set_option linter.unusedVariables false
set_option linter.unusedSimpArgs false

/-! ### laws_FnGoodsteinNext: function 7 -/
def laws_FnGoodsteinNext.f (k : Nat) (l0 : List Int) : Option (Bool) := if (l0.length : Int) > 1048576 then (some true) else ((spec_DrawGoodsteinNext.f k l0).bind fun bt527 => ((impl_GoodsteinNext.f k bt527.1 bt527.2).bind fun t529 => ((spec_GoodsteinNext.f k bt527.1 bt527.2).bind fun t530 => (if t529 = t530 then (if t529 < 0 then (if t529 = (-1) then ((laws_alive.f k).bind fun t531 => (some t531)) else (some false)) else ((impl_OrdInBase.f k t529 (wrap64 (bt527.2 + 1))).bind fun t532 => (if (t532.length : Int) = 0 then ((impl_ChangeBase.f k bt527.1 bt527.2 (wrap64 (bt527.2 + 1))).bind fun t535 => (if t535 = (wrap64 (t529 + 1)) then (if bt527.1 < bt527.2 then (some true) else (some (decide (t529 ≥ bt527.1)))) else (some false))) else ((impl_OrdInBase.f k bt527.1 bt527.2).bind fun t536 => ((impl_OrdCompare.f k t532 t536).bind fun t539 => (if t539 = (-1) then ((impl_ChangeBase.f k bt527.1 bt527.2 (wrap64 (bt527.2 + 1))).bind fun t540 => (if t540 = (wrap64 (t529 + 1)) then (if bt527.1 < bt527.2 then (some true) else (some (decide (t529 ≥ bt527.1)))) else (some false))) else (some false))))))) else (some false)))))
theorem laws_FnGoodsteinNext.mono : ∀ a0 k,LeO (laws_FnGoodsteinNext.f k a0) (laws_FnGoodsteinNext.f (k + 1) a0) := by
 intro a0 k
 unfold laws_FnGoodsteinNext.f
 repeat' first|(with_reducible first|exact impl_ChangeBase.mono _ _ _ _|exact impl_GoodsteinNext.mono _ _ _|exact impl_OrdCompare.mono _ _ _|exact impl_OrdInBase.mono _ _ _|exact laws_alive.mono _|exact spec_DrawGoodsteinNext.mono _ _|exact spec_GoodsteinNext.mono _ _ _|exact LeO.refl _|exact LeO.none _|refine LeO.ite ?_ ?_|refine LeO.bind ?_ (fun _ => ?_))|exact impl_ChangeBase.mono _ _ _ _|exact impl_GoodsteinNext.mono _ _ _|exact impl_OrdCompare.mono _ _ _|exact impl_OrdInBase.mono _ _ _|exact laws_alive.mono _|exact spec_DrawGoodsteinNext.mono _ _|exact spec_GoodsteinNext.mono _ _ _|exact LeO.none _|refine LeO.ite ?_ ?_|refine LeO.bind ?_ (fun _ => ?_)
set_option maxHeartbeats 8000000 in
set_option maxRecDepth 100000 in
theorem laws_FnGoodsteinNext.calls (k : Nat) (A0 : Option Addr) (c0 : Nat) (l0 : List Int) (r : Bool) (w : World) (hr0 : Kd.C (Kd.int .u8) w A0 l0.length l0) (hc0 : l0.length ≤ c0) (h : laws_FnGoodsteinNext.f k l0 = some r) :
  Calls Try.prog 7 #[.slice A0 l0.length c0] w fun e w' => e = .returned (.bool r) ∧ Below w.heap.size w w' := by
 have HR0 := Aside0.mk hr0
 have HC0 := Aside0.mk hc0
 clear hr0 hc0
 have HB := Aside0.mk (Below.refl w.heap.size w)
 have H : (if (l0.length : Int) > 1048576 then (some true) else ((spec_DrawGoodsteinNext.f k l0).bind fun bt527 => ((impl_GoodsteinNext.f k bt527.1 bt527.2).bind fun t529 => ((spec_GoodsteinNext.f k bt527.1 bt527.2).bind fun t530 => (if t529 = t530 then (if t529 < 0 then (if t529 = (-1) then ((laws_alive.f k).bind fun t531 => (some t531)) else (some false)) else ((impl_OrdInBase.f k t529 (wrap64 (bt527.2 + 1))).bind fun t532 => (if (t532.length : Int) = 0 then ((impl_ChangeBase.f k bt527.1 bt527.2 (wrap64 (bt527.2 + 1))).bind fun t535 => (if t535 = (wrap64 (t529 + 1)) then (if bt527.1 < bt527.2 then (some true) else (some (decide (t529 ≥ bt527.1)))) else (some false))) else ((impl_OrdInBase.f k bt527.1 bt527.2).bind fun t536 => ((impl_OrdCompare.f k t532 t536).bind fun t539 => (if t539 = (-1) then ((impl_ChangeBase.f k bt527.1 bt527.2 (wrap64 (bt527.2 + 1))).bind fun t540 => (if t540 = (wrap64 (t529 + 1)) then (if bt527.1 < bt527.2 then (some true) else (some (decide (t529 ≥ bt527.1)))) else (some false))) else (some false))))))) else (some false)))))) = some r := h
 clear h
 by_cases c2 : (l0.length : Int) > 1048576
 ·rw [if_pos c2] at H
  have c2b0 : decide (1048576 < (l0.length : Int)) = true := decide_eq_true c2
  have c2b1 : decide (1048576 < l0.length) = true := decide_eq_true (by omega)
  clear c2
  obtain rfl := Option.some.inj H
  go_enter Try.func7,Try.ntmps7
  go_wp2
  go_ret
  exact ⟨by first|rfl|(simp [errW_none,errW_some] <;> rfl)|(simp [*,errW_none,errW_some] <;> rfl),bz⟩
 ·rw [if_neg c2] at H
  have c2b0 : decide (1048576 < (l0.length : Int)) = false := decide_eq_false c2
  have c2b1 : decide (1048576 < l0.length) = false := decide_eq_false (by omega)
  clear c2
  replace H := Option.bind_eq_some_iff.mp H
  obtain ⟨⟨t527,t528⟩,A30,H⟩ := H
  replace H : ((impl_GoodsteinNext.f k t527 t528).bind fun t529 => ((spec_GoodsteinNext.f k t527 t528).bind fun t530 => (if t529 = t530 then (if t529 < 0 then (if t529 = (-1) then ((laws_alive.f k).bind fun t531 => (some t531)) else (some false)) else ((impl_OrdInBase.f k t529 (wrap64 (t528 + 1))).bind fun t532 => (if (t532.length : Int) = 0 then ((impl_ChangeBase.f k t527 t528 (wrap64 (t528 + 1))).bind fun t535 => (if t535 = (wrap64 (t529 + 1)) then (if t527 < t528 then (some true) else (some (decide (t529 ≥ t527)))) else (some false))) else ((impl_OrdInBase.f k t527 t528).bind fun t536 => ((impl_OrdCompare.f k t532 t536).bind fun t539 => (if t539 = (-1) then ((impl_ChangeBase.f k t527 t528 (wrap64 (t528 + 1))).bind fun t540 => (if t540 = (wrap64 (t529 + 1)) then (if t527 < t528 then (some true) else (some (decide (t529 ≥ t527)))) else (some false))) else (some false))))))) else (some false)))) = some r := H
  have A3 := Aside0.mk A30
  clear A30
  replace H := Option.bind_eq_some_iff.mp H
  obtain ⟨t529,A40,H⟩ := H
  replace H : ((spec_GoodsteinNext.f k t527 t528).bind fun t530 => (if t529 = t530 then (if t529 < 0 then (if t529 = (-1) then ((laws_alive.f k).bind fun t531 => (some t531)) else (some false)) else ((impl_OrdInBase.f k t529 (wrap64 (t528 + 1))).bind fun t532 => (if (t532.length : Int) = 0 then ((impl_ChangeBase.f k t527 t528 (wrap64 (t528 + 1))).bind fun t535 => (if t535 = (wrap64 (t529 + 1)) then (if t527 < t528 then (some true) else (some (decide (t529 ≥ t527)))) else (some false))) else ((impl_OrdInBase.f k t527 t528).bind fun t536 => ((impl_OrdCompare.f k t532 t536).bind fun t539 => (if t539 = (-1) then ((impl_ChangeBase.f k t527 t528 (wrap64 (t528 + 1))).bind fun t540 => (if t540 = (wrap64 (t529 + 1)) then (if t527 < t528 then (some true) else (some (decide (t529 ≥ t527)))) else (some false))) else (some false))))))) else (some false))) = some r := H
  have A4 := Aside0.mk A40
  clear A40
  replace H := Option.bind_eq_some_iff.mp H
  obtain ⟨t530,A50,H⟩ := H
  replace H : (if t529 = t530 then (if t529 < 0 then (if t529 = (-1) then ((laws_alive.f k).bind fun t531 => (some t531)) else (some false)) else ((impl_OrdInBase.f k t529 (wrap64 (t528 + 1))).bind fun t532 => (if (t532.length : Int) = 0 then ((impl_ChangeBase.f k t527 t528 (wrap64 (t528 + 1))).bind fun t535 => (if t535 = (wrap64 (t529 + 1)) then (if t527 < t528 then (some true) else (some (decide (t529 ≥ t527)))) else (some false))) else ((impl_OrdInBase.f k t527 t528).bind fun t536 => ((impl_OrdCompare.f k t532 t536).bind fun t539 => (if t539 = (-1) then ((impl_ChangeBase.f k t527 t528 (wrap64 (t528 + 1))).bind fun t540 => (if t540 = (wrap64 (t529 + 1)) then (if t527 < t528 then (some true) else (some (decide (t529 ≥ t527)))) else (some false))) else (some false))))))) else (some false)) = some r := H
  have A5 := Aside0.mk A50
  clear A50
  by_cases c6 : t529 = t530
  ·rw [if_pos c6] at H
   have c6b0 : (t529 == t530) = true := beq_iff_eq.mpr c6
   have c6b1 : (t529 != t530) = false := bne_eq_false_iff_eq.mpr c6
   clear c6
   by_cases c7 : t529 < 0
   ·rw [if_pos c7] at H
    have c7b0 : decide (t529 < 0) = true := decide_eq_true c7
    clear c7
    by_cases c8 : t529 = (-1)
    ·rw [if_pos c8] at H
     have c8b0 : (t529 == (-1)) = true := beq_iff_eq.mpr c8
     have c8b1 : (t529 != (-1)) = false := bne_eq_false_iff_eq.mpr c8
     clear c8
     replace H := Option.bind_eq_some_iff.mp H
     obtain ⟨t531,A90,H⟩ := H
     replace H : (some t531) = some r := H
     have A9 := Aside0.mk A90
     clear A90
     obtain rfl := Option.some.inj H
     go_enter Try.func7,Try.ntmps7
     go_wp2_with (first|((with_reducible refine gate_callee (f := 30) rfl ?_);refine goesL_ (some 12) rfl rfl Try.func30 (by kernel_rfl) rfl #[.slice A0 l0.length c0] rfl az ?_;(with_reducible refine (spec_DrawGoodsteinNext.calls k _ _ l0 t527 t528 _ ?side1 ?side2 A3.out).mono ?_);(case side1 => exact Kd.Cz HR0.out);(case side2 => exact HC0.out);rintro e w10 ⟨rfl,hb⟩;refine ⟨_,rfl,?_⟩;have n0_ := Aside0.mk (below_step bz hb);clear HB;have HB := n0_;clear n0_;(try clear hb);(try clear hb2);(try clear hk);(try clear hi))|((with_reducible refine gate_callee (f := 26) rfl ?_);refine goesL_ (some 17) rfl rfl Try.func26 (by kernel_rfl) rfl #[.int .i64 t527,.int .i64 t528] rfl az ?_;(with_reducible refine (impl_GoodsteinNext.calls k t527 t528 t529 _ A4.out).mono ?_);rintro e w11 ⟨rfl,hb⟩;refine ⟨_,rfl,?_⟩;have n0_ := Aside0.mk (below_step bz hb);clear HB;have HB := n0_;clear n0_;(try clear hb);(try clear hb2);(try clear hk);(try clear hi))|((with_reducible refine gate_callee (f := 31) rfl ?_);refine goesL_ (some 21) rfl rfl Try.func31 (by kernel_rfl) rfl #[.int .i64 t527,.int .i64 t528] rfl az ?_;(with_reducible refine (spec_GoodsteinNext.calls k t527 t528 t530 _ A5.out).mono ?_);rintro e w12 ⟨rfl,hb⟩;refine ⟨_,rfl,?_⟩;have n0_ := Aside0.mk (below_step bz hb);clear HB;have HB := n0_;clear n0_;(try clear hb);(try clear hb2);(try clear hk);(try clear hi))|(go_at_call 15;(with_reducible refine (laws_alive.calls k  t531 _ A9.out).mono ?_);rintro e w13 ⟨rfl,hb⟩;have n0_ := Aside0.mk (below_step bz hb);clear HB;have HB := n0_;clear n0_;(try clear hb);(try clear hb2);(try clear hk);(try clear hi)))
     go_ret
     exact ⟨by first|rfl|(simp [errW_none,errW_some] <;> rfl)|(simp [*,errW_none,errW_some] <;> rfl),bz⟩
    ·rw [if_neg c8] at H
     have c8b0 : (t529 == (-1)) = false := beq_eq_false_iff_ne.mpr c8
     have c8b1 : (t529 != (-1)) = true := bne_iff_ne.mpr c8
     obtain rfl := Option.some.inj H
     go_enter Try.func7,Try.ntmps7
     go_wp2_with (first|((with_reducible refine gate_callee (f := 30) rfl ?_);refine goesL_ (some 12) rfl rfl Try.func30 (by kernel_rfl) rfl #[.slice A0 l0.length c0] rfl az ?_;(with_reducible refine (spec_DrawGoodsteinNext.calls k _ _ l0 t527 t528 _ ?side1 ?side2 A3.out).mono ?_);(case side1 => exact Kd.Cz HR0.out);(case side2 => exact HC0.out);rintro e w14 ⟨rfl,hb⟩;refine ⟨_,rfl,?_⟩;have n0_ := Aside0.mk (below_step bz hb);clear HB;have HB := n0_;clear n0_;(try clear hb);(try clear hb2);(try clear hk);(try clear hi))|((with_reducible refine gate_callee (f := 26) rfl ?_);refine goesL_ (some 17) rfl rfl Try.func26 (by kernel_rfl) rfl #[.int .i64 t527,.int .i64 t528] rfl az ?_;(with_reducible refine (impl_GoodsteinNext.calls k t527 t528 t529 _ A4.out).mono ?_);rintro e w15 ⟨rfl,hb⟩;refine ⟨_,rfl,?_⟩;have n0_ := Aside0.mk (below_step bz hb);clear HB;have HB := n0_;clear n0_;(try clear hb);(try clear hb2);(try clear hk);(try clear hi))|((with_reducible refine gate_callee (f := 31) rfl ?_);refine goesL_ (some 21) rfl rfl Try.func31 (by kernel_rfl) rfl #[.int .i64 t527,.int .i64 t528] rfl az ?_;(with_reducible refine (spec_GoodsteinNext.calls k t527 t528 t530 _ A5.out).mono ?_);rintro e w16 ⟨rfl,hb⟩;refine ⟨_,rfl,?_⟩;have n0_ := Aside0.mk (below_step bz hb);clear HB;have HB := n0_;clear n0_;(try clear hb);(try clear hb2);(try clear hk);(try clear hi)))
     go_ret
     exact ⟨by first|rfl|(simp [errW_none,errW_some] <;> rfl)|(simp [*,errW_none,errW_some] <;> rfl),bz⟩
   ·rw [if_neg c7] at H
    have c7b0 : decide (t529 < 0) = false := decide_eq_false c7
    clear c7
    replace H := Option.bind_eq_some_iff.mp H
    obtain ⟨t532,A170,H⟩ := H
    replace H : (if (t532.length : Int) = 0 then ((impl_ChangeBase.f k t527 t528 (wrap64 (t528 + 1))).bind fun t535 => (if t535 = (wrap64 (t529 + 1)) then (if t527 < t528 then (some true) else (some (decide (t529 ≥ t527)))) else (some false))) else ((impl_OrdInBase.f k t527 t528).bind fun t536 => ((impl_OrdCompare.f k t532 t536).bind fun t539 => (if t539 = (-1) then ((impl_ChangeBase.f k t527 t528 (wrap64 (t528 + 1))).bind fun t540 => (if t540 = (wrap64 (t529 + 1)) then (if t527 < t528 then (some true) else (some (decide (t529 ≥ t527)))) else (some false))) else (some false))))) = some r := H
    have A17 := Aside0.mk A170
    clear A170
    by_cases c18 : (t532.length : Int) = 0
    ·rw [if_pos c18] at H
     have c18b0 : ((t532.length : Int) == 0) = true := beq_iff_eq.mpr c18
     have c18b1 : ((t532.length : Int) != 0) = false := bne_eq_false_iff_eq.mpr c18
     clear c18
     replace H := Option.bind_eq_some_iff.mp H
     obtain ⟨t535,A190,H⟩ := H
     replace H : (if t535 = (wrap64 (t529 + 1)) then (if t527 < t528 then (some true) else (some (decide (t529 ≥ t527)))) else (some false)) = some r := H
     have A19 := Aside0.mk A190
     clear A190
     by_cases c20 : t535 = (wrap64 (t529 + 1))
     ·rw [if_pos c20] at H
      have c20b0 : (t535 == (wrap64 (t529 + 1))) = true := beq_iff_eq.mpr c20
      have c20b1 : (t535 != (wrap64 (t529 + 1))) = false := bne_eq_false_iff_eq.mpr c20
      clear c20
      by_cases c21 : t527 < t528
      ·rw [if_pos c21] at H
       have c21b0 : decide (t527 < t528) = true := decide_eq_true c21
       clear c21
       obtain rfl := Option.some.inj H
       go_enter Try.func7,Try.ntmps7
       go_wp2_with (first|((with_reducible refine gate_callee (f := 30) rfl ?_);refine goesL_ (some 12) rfl rfl Try.func30 (by kernel_rfl) rfl #[.slice A0 l0.length c0] rfl az ?_;(with_reducible refine (spec_DrawGoodsteinNext.calls k _ _ l0 t527 t528 _ ?side1 ?side2 A3.out).mono ?_);(case side1 => exact Kd.Cz HR0.out);(case side2 => exact HC0.out);rintro e w22 ⟨rfl,hb⟩;refine ⟨_,rfl,?_⟩;have n0_ := Aside0.mk (below_step bz hb);clear HB;have HB := n0_;clear n0_;(try clear hb);(try clear hb2);(try clear hk);(try clear hi))|((with_reducible refine gate_callee (f := 26) rfl ?_);refine goesL_ (some 17) rfl rfl Try.func26 (by kernel_rfl) rfl #[.int .i64 t527,.int .i64 t528] rfl az ?_;(with_reducible refine (impl_GoodsteinNext.calls k t527 t528 t529 _ A4.out).mono ?_);rintro e w23 ⟨rfl,hb⟩;refine ⟨_,rfl,?_⟩;have n0_ := Aside0.mk (below_step bz hb);clear HB;have HB := n0_;clear n0_;(try clear hb);(try clear hb2);(try clear hk);(try clear hi))|((with_reducible refine gate_callee (f := 31) rfl ?_);refine goesL_ (some 21) rfl rfl Try.func31 (by kernel_rfl) rfl #[.int .i64 t527,.int .i64 t528] rfl az ?_;(with_reducible refine (spec_GoodsteinNext.calls k t527 t528 t530 _ A5.out).mono ?_);rintro e w24 ⟨rfl,hb⟩;refine ⟨_,rfl,?_⟩;have n0_ := Aside0.mk (below_step bz hb);clear HB;have HB := n0_;clear n0_;(try clear hb);(try clear hb2);(try clear hk);(try clear hi))|((with_reducible refine gate_callee (f := 12) rfl ?_);refine goesL_ (some 33) rfl rfl Try.func12 (by kernel_rfl) rfl #[.int .i64 t529,.int .i64 (wrap64 (t528 + 1))] rfl az ?_;(with_reducible refine (impl_OrdInBase.calls k t529 (wrap64 (t528 + 1)) t532 _ A17.out).mono ?_);rintro e w25 ⟨v533,rfl,ho0,hb⟩;refine ⟨_,rfl,?_⟩;have n0_ := Aside0.mk (Kd.R_lower ho0 (below_size bz));have n1_ := Aside0.mk (below_step bz hb);clear HB;have HO534 := n0_;have HB := n1_;clear n0_ n1_;(try clear hb);(try clear hb2);(try clear hk);(try clear hi);(try clear ho0);obtain ⟨Ao26,co26,eo26⟩ := Kd.R_slice HO534.out;subst eo26)|(go_at_call 28;(with_reducible refine (impl_ChangeBase.calls k t527 t528 (wrap64 (t528 + 1)) t535 _ A19.out).mono ?_);rintro e w27 ⟨rfl,hb⟩;have n0_ := Aside0.mk (Kd.R_below (Kd.Rz HO534.out) hb);have n1_ := Aside0.mk (below_step bz hb);clear HO534;clear HB;have HO534 := n0_;have HB := n1_;clear n0_ n1_;(try clear hb);(try clear hb2);(try clear hk);(try clear hi)))
       go_ret
       exact ⟨by first|rfl|(simp [errW_none,errW_some] <;> rfl)|(simp [*,errW_none,errW_some] <;> rfl),bz⟩
      ·rw [if_neg c21] at H
       have c21b0 : decide (t527 < t528) = false := decide_eq_false c21
       clear c21
       obtain rfl := Option.some.inj H
       go_enter Try.func7,Try.ntmps7
       go_wp2_with (first|((with_reducible refine gate_callee (f := 30) rfl ?_);refine goesL_ (some 12) rfl rfl Try.func30 (by kernel_rfl) rfl #[.slice A0 l0.length c0] rfl az ?_;(with_reducible refine (spec_DrawGoodsteinNext.calls k _ _ l0 t527 t528 _ ?side1 ?side2 A3.out).mono ?_);(case side1 => exact Kd.Cz HR0.out);(case side2 => exact HC0.out);rintro e w28 ⟨rfl,hb⟩;refine ⟨_,rfl,?_⟩;have n0_ := Aside0.mk (below_step bz hb);clear HB;have HB := n0_;clear n0_;(try clear hb);(try clear hb2);(try clear hk);(try clear hi))|((with_reducible refine gate_callee (f := 26) rfl ?_);refine goesL_ (some 17) rfl rfl Try.func26 (by kernel_rfl) rfl #[.int .i64 t527,.int .i64 t528] rfl az ?_;(with_reducible refine (impl_GoodsteinNext.calls k t527 t528 t529 _ A4.out).mono ?_);rintro e w29 ⟨rfl,hb⟩;refine ⟨_,rfl,?_⟩;have n0_ := Aside0.mk (below_step bz hb);clear HB;have HB := n0_;clear n0_;(try clear hb);(try clear hb2);(try clear hk);(try clear hi))|((with_reducible refine gate_callee (f := 31) rfl ?_);refine goesL_ (some 21) rfl rfl Try.func31 (by kernel_rfl) rfl #[.int .i64 t527,.int .i64 t528] rfl az ?_;(with_reducible refine (spec_GoodsteinNext.calls k t527 t528 t530 _ A5.out).mono ?_);rintro e w30 ⟨rfl,hb⟩;refine ⟨_,rfl,?_⟩;have n0_ := Aside0.mk (below_step bz hb);clear HB;have HB := n0_;clear n0_;(try clear hb);(try clear hb2);(try clear hk);(try clear hi))|((with_reducible refine gate_callee (f := 12) rfl ?_);refine goesL_ (some 33) rfl rfl Try.func12 (by kernel_rfl) rfl #[.int .i64 t529,.int .i64 (wrap64 (t528 + 1))] rfl az ?_;(with_reducible refine (impl_OrdInBase.calls k t529 (wrap64 (t528 + 1)) t532 _ A17.out).mono ?_);rintro e w31 ⟨v533,rfl,ho0,hb⟩;refine ⟨_,rfl,?_⟩;have n0_ := Aside0.mk (Kd.R_lower ho0 (below_size bz));have n1_ := Aside0.mk (below_step bz hb);clear HB;have HO534 := n0_;have HB := n1_;clear n0_ n1_;(try clear hb);(try clear hb2);(try clear hk);(try clear hi);(try clear ho0);obtain ⟨Ao32,co32,eo32⟩ := Kd.R_slice HO534.out;subst eo32)|(go_at_call 28;(with_reducible refine (impl_ChangeBase.calls k t527 t528 (wrap64 (t528 + 1)) t535 _ A19.out).mono ?_);rintro e w33 ⟨rfl,hb⟩;have n0_ := Aside0.mk (Kd.R_below (Kd.Rz HO534.out) hb);have n1_ := Aside0.mk (below_step bz hb);clear HO534;clear HB;have HO534 := n0_;have HB := n1_;clear n0_ n1_;(try clear hb);(try clear hb2);(try clear hk);(try clear hi)))
       go_ret
       exact ⟨by first|rfl|(simp [errW_none,errW_some] <;> rfl)|(simp [*,errW_none,errW_some] <;> rfl),bz⟩
     ·rw [if_neg c20] at H
      have c20b0 : (t535 == (wrap64 (t529 + 1))) = false := beq_eq_false_iff_ne.mpr c20
      have c20b1 : (t535 != (wrap64 (t529 + 1))) = true := bne_iff_ne.mpr c20
      obtain rfl := Option.some.inj H
      go_enter Try.func7,Try.ntmps7
      go_wp2_with (first|((with_reducible refine gate_callee (f := 30) rfl ?_);refine goesL_ (some 12) rfl rfl Try.func30 (by kernel_rfl) rfl #[.slice A0 l0.length c0] rfl az ?_;(with_reducible refine (spec_DrawGoodsteinNext.calls k _ _ l0 t527 t528 _ ?side1 ?side2 A3.out).mono ?_);(case side1 => exact Kd.Cz HR0.out);(case side2 => exact HC0.out);rintro e w34 ⟨rfl,hb⟩;refine ⟨_,rfl,?_⟩;have n0_ := Aside0.mk (below_step bz hb);clear HB;have HB := n0_;clear n0_;(try clear hb);(try clear hb2);(try clear hk);(try clear hi))|((with_reducible refine gate_callee (f := 26) rfl ?_);refine goesL_ (some 17) rfl rfl Try.func26 (by kernel_rfl) rfl #[.int .i64 t527,.int .i64 t528] rfl az ?_;(with_reducible refine (impl_GoodsteinNext.calls k t527 t528 t529 _ A4.out).mono ?_);rintro e w35 ⟨rfl,hb⟩;refine ⟨_,rfl,?_⟩;have n0_ := Aside0.mk (below_step bz hb);clear HB;have HB := n0_;clear n0_;(try clear hb);(try clear hb2);(try clear hk);(try clear hi))|((with_reducible refine gate_callee (f := 31) rfl ?_);refine goesL_ (some 21) rfl rfl Try.func31 (by kernel_rfl) rfl #[.int .i64 t527,.int .i64 t528] rfl az ?_;(with_reducible refine (spec_GoodsteinNext.calls k t527 t528 t530 _ A5.out).mono ?_);rintro e w36 ⟨rfl,hb⟩;refine ⟨_,rfl,?_⟩;have n0_ := Aside0.mk (below_step bz hb);clear HB;have HB := n0_;clear n0_;(try clear hb);(try clear hb2);(try clear hk);(try clear hi))|((with_reducible refine gate_callee (f := 12) rfl ?_);refine goesL_ (some 33) rfl rfl Try.func12 (by kernel_rfl) rfl #[.int .i64 t529,.int .i64 (wrap64 (t528 + 1))] rfl az ?_;(with_reducible refine (impl_OrdInBase.calls k t529 (wrap64 (t528 + 1)) t532 _ A17.out).mono ?_);rintro e w37 ⟨v533,rfl,ho0,hb⟩;refine ⟨_,rfl,?_⟩;have n0_ := Aside0.mk (Kd.R_lower ho0 (below_size bz));have n1_ := Aside0.mk (below_step bz hb);clear HB;have HO534 := n0_;have HB := n1_;clear n0_ n1_;(try clear hb);(try clear hb2);(try clear hk);(try clear hi);(try clear ho0);obtain ⟨Ao38,co38,eo38⟩ := Kd.R_slice HO534.out;subst eo38)|(go_at_call 28;(with_reducible refine (impl_ChangeBase.calls k t527 t528 (wrap64 (t528 + 1)) t535 _ A19.out).mono ?_);rintro e w39 ⟨rfl,hb⟩;have n0_ := Aside0.mk (Kd.R_below (Kd.Rz HO534.out) hb);have n1_ := Aside0.mk (below_step bz hb);clear HO534;clear HB;have HO534 := n0_;have HB := n1_;clear n0_ n1_;(try clear hb);(try clear hb2);(try clear hk);(try clear hi)))
      go_ret
      exact ⟨by first|rfl|(simp [errW_none,errW_some] <;> rfl)|(simp [*,errW_none,errW_some] <;> rfl),bz⟩
    ·rw [if_neg c18] at H
     have c18b0 : ((t532.length : Int) == 0) = false := beq_eq_false_iff_ne.mpr c18
     have c18b1 : ((t532.length : Int) != 0) = true := bne_iff_ne.mpr c18
     have c18b2 : ¬ (t532 = []) := fun h_ => c18 (by rw [h_];rfl)
     replace H := Option.bind_eq_some_iff.mp H
     obtain ⟨t536,A400,H⟩ := H
     replace H : ((impl_OrdCompare.f k t532 t536).bind fun t539 => (if t539 = (-1) then ((impl_ChangeBase.f k t527 t528 (wrap64 (t528 + 1))).bind fun t540 => (if t540 = (wrap64 (t529 + 1)) then (if t527 < t528 then (some true) else (some (decide (t529 ≥ t527)))) else (some false))) else (some false))) = some r := H
     have A40 := Aside0.mk A400
     clear A400
     replace H := Option.bind_eq_some_iff.mp H
     obtain ⟨t539,A410,H⟩ := H
     replace H : (if t539 = (-1) then ((impl_ChangeBase.f k t527 t528 (wrap64 (t528 + 1))).bind fun t540 => (if t540 = (wrap64 (t529 + 1)) then (if t527 < t528 then (some true) else (some (decide (t529 ≥ t527)))) else (some false))) else (some false)) = some r := H
     have A41 := Aside0.mk A410
     clear A410
     by_cases c42 : t539 = (-1)
     ·rw [if_pos c42] at H
      have c42b0 : (t539 == (-1)) = true := beq_iff_eq.mpr c42
      have c42b1 : (t539 != (-1)) = false := bne_eq_false_iff_eq.mpr c42
      clear c42
      replace H := Option.bind_eq_some_iff.mp H
      obtain ⟨t540,A430,H⟩ := H
      replace H : (if t540 = (wrap64 (t529 + 1)) then (if t527 < t528 then (some true) else (some (decide (t529 ≥ t527)))) else (some false)) = some r := H
      have A43 := Aside0.mk A430
      clear A430
      by_cases c44 : t540 = (wrap64 (t529 + 1))
      ·rw [if_pos c44] at H
       have c44b0 : (t540 == (wrap64 (t529 + 1))) = true := beq_iff_eq.mpr c44
       have c44b1 : (t540 != (wrap64 (t529 + 1))) = false := bne_eq_false_iff_eq.mpr c44
       clear c44
       by_cases c45 : t527 < t528
       ·rw [if_pos c45] at H
        have c45b0 : decide (t527 < t528) = true := decide_eq_true c45
        clear c45
        obtain rfl := Option.some.inj H
        go_enter Try.func7,Try.ntmps7
        go_wp2_with (first|((with_reducible refine gate_callee (f := 30) rfl ?_);refine goesL_ (some 12) rfl rfl Try.func30 (by kernel_rfl) rfl #[.slice A0 l0.length c0] rfl az ?_;(with_reducible refine (spec_DrawGoodsteinNext.calls k _ _ l0 t527 t528 _ ?side1 ?side2 A3.out).mono ?_);(case side1 => exact Kd.Cz HR0.out);(case side2 => exact HC0.out);rintro e w46 ⟨rfl,hb⟩;refine ⟨_,rfl,?_⟩;have n0_ := Aside0.mk (below_step bz hb);clear HB;have HB := n0_;clear n0_;(try clear hb);(try clear hb2);(try clear hk);(try clear hi))|((with_reducible refine gate_callee (f := 26) rfl ?_);refine goesL_ (some 17) rfl rfl Try.func26 (by kernel_rfl) rfl #[.int .i64 t527,.int .i64 t528] rfl az ?_;(with_reducible refine (impl_GoodsteinNext.calls k t527 t528 t529 _ A4.out).mono ?_);rintro e w47 ⟨rfl,hb⟩;refine ⟨_,rfl,?_⟩;have n0_ := Aside0.mk (below_step bz hb);clear HB;have HB := n0_;clear n0_;(try clear hb);(try clear hb2);(try clear hk);(try clear hi))|((with_reducible refine gate_callee (f := 31) rfl ?_);refine goesL_ (some 21) rfl rfl Try.func31 (by kernel_rfl) rfl #[.int .i64 t527,.int .i64 t528] rfl az ?_;(with_reducible refine (spec_GoodsteinNext.calls k t527 t528 t530 _ A5.out).mono ?_);rintro e w48 ⟨rfl,hb⟩;refine ⟨_,rfl,?_⟩;have n0_ := Aside0.mk (below_step bz hb);clear HB;have HB := n0_;clear n0_;(try clear hb);(try clear hb2);(try clear hk);(try clear hi))|((with_reducible refine gate_callee (f := 12) rfl ?_);refine goesL_ (some 33) rfl rfl Try.func12 (by kernel_rfl) rfl #[.int .i64 t529,.int .i64 (wrap64 (t528 + 1))] rfl az ?_;(with_reducible refine (impl_OrdInBase.calls k t529 (wrap64 (t528 + 1)) t532 _ A17.out).mono ?_);rintro e w49 ⟨v533,rfl,ho0,hb⟩;refine ⟨_,rfl,?_⟩;have n0_ := Aside0.mk (Kd.R_lower ho0 (below_size bz));have n1_ := Aside0.mk (below_step bz hb);clear HB;have HO534 := n0_;have HB := n1_;clear n0_ n1_;(try clear hb);(try clear hb2);(try clear hk);(try clear hi);(try clear ho0);obtain ⟨Ao50,co50,eo50⟩ := Kd.R_slice HO534.out;subst eo50)|(go_at_call 12;(with_reducible refine (impl_OrdInBase.calls k t527 t528 t536 _ A40.out).mono ?_);rintro e w51 ⟨v537,rfl,ho0,hb⟩;have n0_ := Aside0.mk (Kd.R_elder' (Kd.Rz HO534.out) (Kd.R_base ho0) hb);have n1_ := Aside0.mk (Kd.R_lower (Kd.R_new' ho0 (Kd.R_lt (Kd.Rz HO534.out))) (below_size bz));have n2_ := Aside0.mk (below_step bz hb);clear HO534;clear HB;have HO534 := n0_;have HO538 := n1_;have HB := n2_;clear n0_ n1_ n2_;(try clear hb);(try clear hb2);(try clear hk);(try clear hi);(try clear ho0);obtain ⟨Ao52,co52,eo52⟩ := Kd.R_slice HO538.out;subst eo52)|(go_at_call 19;(with_reducible refine (impl_OrdCompare.calls k _ _ t532 _ _ t536 t539 _ ?side1 ?side2 ?side3 ?side4 A41.out).mono ?_);(case side1 => exact Kd.Cz (Kd.R_reads' HO534.out).2.2);(case side2 => exact (Kd.R_reads' HO534.out).2.1);(case side3 => exact Kd.Cz (Kd.R_reads' HO538.out).2.2);(case side4 => exact (Kd.R_reads' HO538.out).2.1);rintro e w53 ⟨rfl,hb⟩;have n0_ := Aside0.mk (Kd.R_below (Kd.Rz HO534.out) hb);have n1_ := Aside0.mk (Kd.R_below (Kd.Rz HO538.out) hb);have n2_ := Aside0.mk (below_step bz hb);clear HO534;clear HO538;clear HB;have HO534 := n0_;have HO538 := n1_;have HB := n2_;clear n0_ n1_ n2_;(try clear hb);(try clear hb2);(try clear hk);(try clear hi))|(go_at_call 28;(with_reducible refine (impl_ChangeBase.calls k t527 t528 (wrap64 (t528 + 1)) t540 _ A43.out).mono ?_);rintro e w54 ⟨rfl,hb⟩;have n0_ := Aside0.mk (Kd.R_below (Kd.Rz HO534.out) hb);have n1_ := Aside0.mk (Kd.R_below (Kd.Rz HO538.out) hb);have n2_ := Aside0.mk (below_step bz hb);clear HO534;clear HO538;clear HB;have HO534 := n0_;have HO538 := n1_;have HB := n2_;clear n0_ n1_ n2_;(try clear hb);(try clear hb2);(try clear hk);(try clear hi)))
        go_ret
        exact ⟨by first|rfl|(simp [errW_none,errW_some] <;> rfl)|(simp [*,errW_none,errW_some] <;> rfl),bz⟩
       ·rw [if_neg c45] at H
        have c45b0 : decide (t527 < t528) = false := decide_eq_false c45
        clear c45
        obtain rfl := Option.some.inj H
        go_enter Try.func7,Try.ntmps7
        go_wp2_with (first|((with_reducible refine gate_callee (f := 30) rfl ?_);refine goesL_ (some 12) rfl rfl Try.func30 (by kernel_rfl) rfl #[.slice A0 l0.length c0] rfl az ?_;(with_reducible refine (spec_DrawGoodsteinNext.calls k _ _ l0 t527 t528 _ ?side1 ?side2 A3.out).mono ?_);(case side1 => exact Kd.Cz HR0.out);(case side2 => exact HC0.out);rintro e w55 ⟨rfl,hb⟩;refine ⟨_,rfl,?_⟩;have n0_ := Aside0.mk (below_step bz hb);clear HB;have HB := n0_;clear n0_;(try clear hb);(try clear hb2);(try clear hk);(try clear hi))|((with_reducible refine gate_callee (f := 26) rfl ?_);refine goesL_ (some 17) rfl rfl Try.func26 (by kernel_rfl) rfl #[.int .i64 t527,.int .i64 t528] rfl az ?_;(with_reducible refine (impl_GoodsteinNext.calls k t527 t528 t529 _ A4.out).mono ?_);rintro e w56 ⟨rfl,hb⟩;refine ⟨_,rfl,?_⟩;have n0_ := Aside0.mk (below_step bz hb);clear HB;have HB := n0_;clear n0_;(try clear hb);(try clear hb2);(try clear hk);(try clear hi))|((with_reducible refine gate_callee (f := 31) rfl ?_);refine goesL_ (some 21) rfl rfl Try.func31 (by kernel_rfl) rfl #[.int .i64 t527,.int .i64 t528] rfl az ?_;(with_reducible refine (spec_GoodsteinNext.calls k t527 t528 t530 _ A5.out).mono ?_);rintro e w57 ⟨rfl,hb⟩;refine ⟨_,rfl,?_⟩;have n0_ := Aside0.mk (below_step bz hb);clear HB;have HB := n0_;clear n0_;(try clear hb);(try clear hb2);(try clear hk);(try clear hi))|((with_reducible refine gate_callee (f := 12) rfl ?_);refine goesL_ (some 33) rfl rfl Try.func12 (by kernel_rfl) rfl #[.int .i64 t529,.int .i64 (wrap64 (t528 + 1))] rfl az ?_;(with_reducible refine (impl_OrdInBase.calls k t529 (wrap64 (t528 + 1)) t532 _ A17.out).mono ?_);rintro e w58 ⟨v533,rfl,ho0,hb⟩;refine ⟨_,rfl,?_⟩;have n0_ := Aside0.mk (Kd.R_lower ho0 (below_size bz));have n1_ := Aside0.mk (below_step bz hb);clear HB;have HO534 := n0_;have HB := n1_;clear n0_ n1_;(try clear hb);(try clear hb2);(try clear hk);(try clear hi);(try clear ho0);obtain ⟨Ao59,co59,eo59⟩ := Kd.R_slice HO534.out;subst eo59)|(go_at_call 12;(with_reducible refine (impl_OrdInBase.calls k t527 t528 t536 _ A40.out).mono ?_);rintro e w60 ⟨v537,rfl,ho0,hb⟩;have n0_ := Aside0.mk (Kd.R_elder' (Kd.Rz HO534.out) (Kd.R_base ho0) hb);have n1_ := Aside0.mk (Kd.R_lower (Kd.R_new' ho0 (Kd.R_lt (Kd.Rz HO534.out))) (below_size bz));have n2_ := Aside0.mk (below_step bz hb);clear HO534;clear HB;have HO534 := n0_;have HO538 := n1_;have HB := n2_;clear n0_ n1_ n2_;(try clear hb);(try clear hb2);(try clear hk);(try clear hi);(try clear ho0);obtain ⟨Ao61,co61,eo61⟩ := Kd.R_slice HO538.out;subst eo61)|(go_at_call 19;(with_reducible refine (impl_OrdCompare.calls k _ _ t532 _ _ t536 t539 _ ?side1 ?side2 ?side3 ?side4 A41.out).mono ?_);(case side1 => exact Kd.Cz (Kd.R_reads' HO534.out).2.2);(case side2 => exact (Kd.R_reads' HO534.out).2.1);(case side3 => exact Kd.Cz (Kd.R_reads' HO538.out).2.2);(case side4 => exact (Kd.R_reads' HO538.out).2.1);rintro e w62 ⟨rfl,hb⟩;have n0_ := Aside0.mk (Kd.R_below (Kd.Rz HO534.out) hb);have n1_ := Aside0.mk (Kd.R_below (Kd.Rz HO538.out) hb);have n2_ := Aside0.mk (below_step bz hb);clear HO534;clear HO538;clear HB;have HO534 := n0_;have HO538 := n1_;have HB := n2_;clear n0_ n1_ n2_;(try clear hb);(try clear hb2);(try clear hk);(try clear hi))|(go_at_call 28;(with_reducible refine (impl_ChangeBase.calls k t527 t528 (wrap64 (t528 + 1)) t540 _ A43.out).mono ?_);rintro e w63 ⟨rfl,hb⟩;have n0_ := Aside0.mk (Kd.R_below (Kd.Rz HO534.out) hb);have n1_ := Aside0.mk (Kd.R_below (Kd.Rz HO538.out) hb);have n2_ := Aside0.mk (below_step bz hb);clear HO534;clear HO538;clear HB;have HO534 := n0_;have HO538 := n1_;have HB := n2_;clear n0_ n1_ n2_;(try clear hb);(try clear hb2);(try clear hk);(try clear hi)))
        go_ret
        exact ⟨by first|rfl|(simp [errW_none,errW_some] <;> rfl)|(simp [*,errW_none,errW_some] <;> rfl),bz⟩
      ·rw [if_neg c44] at H
       have c44b0 : (t540 == (wrap64 (t529 + 1))) = false := beq_eq_false_iff_ne.mpr c44
       have c44b1 : (t540 != (wrap64 (t529 + 1))) = true := bne_iff_ne.mpr c44
       obtain rfl := Option.some.inj H
       go_enter Try.func7,Try.ntmps7
       go_wp2_with (first|((with_reducible refine gate_callee (f := 30) rfl ?_);refine goesL_ (some 12) rfl rfl Try.func30 (by kernel_rfl) rfl #[.slice A0 l0.length c0] rfl az ?_;(with_reducible refine (spec_DrawGoodsteinNext.calls k _ _ l0 t527 t528 _ ?side1 ?side2 A3.out).mono ?_);(case side1 => exact Kd.Cz HR0.out);(case side2 => exact HC0.out);rintro e w64 ⟨rfl,hb⟩;refine ⟨_,rfl,?_⟩;have n0_ := Aside0.mk (below_step bz hb);clear HB;have HB := n0_;clear n0_;(try clear hb);(try clear hb2);(try clear hk);(try clear hi))|((with_reducible refine gate_callee (f := 26) rfl ?_);refine goesL_ (some 17) rfl rfl Try.func26 (by kernel_rfl) rfl #[.int .i64 t527,.int .i64 t528] rfl az ?_;(with_reducible refine (impl_GoodsteinNext.calls k t527 t528 t529 _ A4.out).mono ?_);rintro e w65 ⟨rfl,hb⟩;refine ⟨_,rfl,?_⟩;have n0_ := Aside0.mk (below_step bz hb);clear HB;have HB := n0_;clear n0_;(try clear hb);(try clear hb2);(try clear hk);(try clear hi))|((with_reducible refine gate_callee (f := 31) rfl ?_);refine goesL_ (some 21) rfl rfl Try.func31 (by kernel_rfl) rfl #[.int .i64 t527,.int .i64 t528] rfl az ?_;(with_reducible refine (spec_GoodsteinNext.calls k t527 t528 t530 _ A5.out).mono ?_);rintro e w66 ⟨rfl,hb⟩;refine ⟨_,rfl,?_⟩;have n0_ := Aside0.mk (below_step bz hb);clear HB;have HB := n0_;clear n0_;(try clear hb);(try clear hb2);(try clear hk);(try clear hi))|((with_reducible refine gate_callee (f := 12) rfl ?_);refine goesL_ (some 33) rfl rfl Try.func12 (by kernel_rfl) rfl #[.int .i64 t529,.int .i64 (wrap64 (t528 + 1))] rfl az ?_;(with_reducible refine (impl_OrdInBase.calls k t529 (wrap64 (t528 + 1)) t532 _ A17.out).mono ?_);rintro e w67 ⟨v533,rfl,ho0,hb⟩;refine ⟨_,rfl,?_⟩;have n0_ := Aside0.mk (Kd.R_lower ho0 (below_size bz));have n1_ := Aside0.mk (below_step bz hb);clear HB;have HO534 := n0_;have HB := n1_;clear n0_ n1_;(try clear hb);(try clear hb2);(try clear hk);(try clear hi);(try clear ho0);obtain ⟨Ao68,co68,eo68⟩ := Kd.R_slice HO534.out;subst eo68)|(go_at_call 12;(with_reducible refine (impl_OrdInBase.calls k t527 t528 t536 _ A40.out).mono ?_);rintro e w69 ⟨v537,rfl,ho0,hb⟩;have n0_ := Aside0.mk (Kd.R_elder' (Kd.Rz HO534.out) (Kd.R_base ho0) hb);have n1_ := Aside0.mk (Kd.R_lower (Kd.R_new' ho0 (Kd.R_lt (Kd.Rz HO534.out))) (below_size bz));have n2_ := Aside0.mk (below_step bz hb);clear HO534;clear HB;have HO534 := n0_;have HO538 := n1_;have HB := n2_;clear n0_ n1_ n2_;(try clear hb);(try clear hb2);(try clear hk);(try clear hi);(try clear ho0);obtain ⟨Ao70,co70,eo70⟩ := Kd.R_slice HO538.out;subst eo70)|(go_at_call 19;(with_reducible refine (impl_OrdCompare.calls k _ _ t532 _ _ t536 t539 _ ?side1 ?side2 ?side3 ?side4 A41.out).mono ?_);(case side1 => exact Kd.Cz (Kd.R_reads' HO534.out).2.2);(case side2 => exact (Kd.R_reads' HO534.out).2.1);(case side3 => exact Kd.Cz (Kd.R_reads' HO538.out).2.2);(case side4 => exact (Kd.R_reads' HO538.out).2.1);rintro e w71 ⟨rfl,hb⟩;have n0_ := Aside0.mk (Kd.R_below (Kd.Rz HO534.out) hb);have n1_ := Aside0.mk (Kd.R_below (Kd.Rz HO538.out) hb);have n2_ := Aside0.mk (below_step bz hb);clear HO534;clear HO538;clear HB;have HO534 := n0_;have HO538 := n1_;have HB := n2_;clear n0_ n1_ n2_;(try clear hb);(try clear hb2);(try clear hk);(try clear hi))|(go_at_call 28;(with_reducible refine (impl_ChangeBase.calls k t527 t528 (wrap64 (t528 + 1)) t540 _ A43.out).mono ?_);rintro e w72 ⟨rfl,hb⟩;have n0_ := Aside0.mk (Kd.R_below (Kd.Rz HO534.out) hb);have n1_ := Aside0.mk (Kd.R_below (Kd.Rz HO538.out) hb);have n2_ := Aside0.mk (below_step bz hb);clear HO534;clear HO538;clear HB;have HO534 := n0_;have HO538 := n1_;have HB := n2_;clear n0_ n1_ n2_;(try clear hb);(try clear hb2);(try clear hk);(try clear hi)))
       go_ret
       exact ⟨by first|rfl|(simp [errW_none,errW_some] <;> rfl)|(simp [*,errW_none,errW_some] <;> rfl),bz⟩
     ·rw [if_neg c42] at H
      have c42b0 : (t539 == (-1)) = false := beq_eq_false_iff_ne.mpr c42
      have c42b1 : (t539 != (-1)) = true := bne_iff_ne.mpr c42
      obtain rfl := Option.some.inj H
      go_enter Try.func7,Try.ntmps7
      go_wp2_with (first|((with_reducible refine gate_callee (f := 30) rfl ?_);refine goesL_ (some 12) rfl rfl Try.func30 (by kernel_rfl) rfl #[.slice A0 l0.length c0] rfl az ?_;(with_reducible refine (spec_DrawGoodsteinNext.calls k _ _ l0 t527 t528 _ ?side1 ?side2 A3.out).mono ?_);(case side1 => exact Kd.Cz HR0.out);(case side2 => exact HC0.out);rintro e w73 ⟨rfl,hb⟩;refine ⟨_,rfl,?_⟩;have n0_ := Aside0.mk (below_step bz hb);clear HB;have HB := n0_;clear n0_;(try clear hb);(try clear hb2);(try clear hk);(try clear hi))|((with_reducible refine gate_callee (f := 26) rfl ?_);refine goesL_ (some 17) rfl rfl Try.func26 (by kernel_rfl) rfl #[.int .i64 t527,.int .i64 t528] rfl az ?_;(with_reducible refine (impl_GoodsteinNext.calls k t527 t528 t529 _ A4.out).mono ?_);rintro e w74 ⟨rfl,hb⟩;refine ⟨_,rfl,?_⟩;have n0_ := Aside0.mk (below_step bz hb);clear HB;have HB := n0_;clear n0_;(try clear hb);(try clear hb2);(try clear hk);(try clear hi))|((with_reducible refine gate_callee (f := 31) rfl ?_);refine goesL_ (some 21) rfl rfl Try.func31 (by kernel_rfl) rfl #[.int .i64 t527,.int .i64 t528] rfl az ?_;(with_reducible refine (spec_GoodsteinNext.calls k t527 t528 t530 _ A5.out).mono ?_);rintro e w75 ⟨rfl,hb⟩;refine ⟨_,rfl,?_⟩;have n0_ := Aside0.mk (below_step bz hb);clear HB;have HB := n0_;clear n0_;(try clear hb);(try clear hb2);(try clear hk);(try clear hi))|((with_reducible refine gate_callee (f := 12) rfl ?_);refine goesL_ (some 33) rfl rfl Try.func12 (by kernel_rfl) rfl #[.int .i64 t529,.int .i64 (wrap64 (t528 + 1))] rfl az ?_;(with_reducible refine (impl_OrdInBase.calls k t529 (wrap64 (t528 + 1)) t532 _ A17.out).mono ?_);rintro e w76 ⟨v533,rfl,ho0,hb⟩;refine ⟨_,rfl,?_⟩;have n0_ := Aside0.mk (Kd.R_lower ho0 (below_size bz));have n1_ := Aside0.mk (below_step bz hb);clear HB;have HO534 := n0_;have HB := n1_;clear n0_ n1_;(try clear hb);(try clear hb2);(try clear hk);(try clear hi);(try clear ho0);obtain ⟨Ao77,co77,eo77⟩ := Kd.R_slice HO534.out;subst eo77)|(go_at_call 12;(with_reducible refine (impl_OrdInBase.calls k t527 t528 t536 _ A40.out).mono ?_);rintro e w78 ⟨v537,rfl,ho0,hb⟩;have n0_ := Aside0.mk (Kd.R_elder' (Kd.Rz HO534.out) (Kd.R_base ho0) hb);have n1_ := Aside0.mk (Kd.R_lower (Kd.R_new' ho0 (Kd.R_lt (Kd.Rz HO534.out))) (below_size bz));have n2_ := Aside0.mk (below_step bz hb);clear HO534;clear HB;have HO534 := n0_;have HO538 := n1_;have HB := n2_;clear n0_ n1_ n2_;(try clear hb);(try clear hb2);(try clear hk);(try clear hi);(try clear ho0);obtain ⟨Ao79,co79,eo79⟩ := Kd.R_slice HO538.out;subst eo79)|(go_at_call 19;(with_reducible refine (impl_OrdCompare.calls k _ _ t532 _ _ t536 t539 _ ?side1 ?side2 ?side3 ?side4 A41.out).mono ?_);(case side1 => exact Kd.Cz (Kd.R_reads' HO534.out).2.2);(case side2 => exact (Kd.R_reads' HO534.out).2.1);(case side3 => exact Kd.Cz (Kd.R_reads' HO538.out).2.2);(case side4 => exact (Kd.R_reads' HO538.out).2.1);rintro e w80 ⟨rfl,hb⟩;have n0_ := Aside0.mk (Kd.R_below (Kd.Rz HO534.out) hb);have n1_ := Aside0.mk (Kd.R_below (Kd.Rz HO538.out) hb);have n2_ := Aside0.mk (below_step bz hb);clear HO534;clear HO538;clear HB;have HO534 := n0_;have HO538 := n1_;have HB := n2_;clear n0_ n1_ n2_;(try clear hb);(try clear hb2);(try clear hk);(try clear hi)))
      go_ret
      exact ⟨by first|rfl|(simp [errW_none,errW_some] <;> rfl)|(simp [*,errW_none,errW_some] <;> rfl),bz⟩
  ·rw [if_neg c6] at H
   have c6b0 : (t529 == t530) = false := beq_eq_false_iff_ne.mpr c6
   have c6b1 : (t529 != t530) = true := bne_iff_ne.mpr c6
   obtain rfl := Option.some.inj H
   go_enter Try.func7,Try.ntmps7
   go_wp2_with (first|((with_reducible refine gate_callee (f := 30) rfl ?_);refine goesL_ (some 12) rfl rfl Try.func30 (by kernel_rfl) rfl #[.slice A0 l0.length c0] rfl az ?_;(with_reducible refine (spec_DrawGoodsteinNext.calls k _ _ l0 t527 t528 _ ?side1 ?side2 A3.out).mono ?_);(case side1 => exact Kd.Cz HR0.out);(case side2 => exact HC0.out);rintro e w81 ⟨rfl,hb⟩;refine ⟨_,rfl,?_⟩;have n0_ := Aside0.mk (below_step bz hb);clear HB;have HB := n0_;clear n0_;(try clear hb);(try clear hb2);(try clear hk);(try clear hi))|((with_reducible refine gate_callee (f := 26) rfl ?_);refine goesL_ (some 17) rfl rfl Try.func26 (by kernel_rfl) rfl #[.int .i64 t527,.int .i64 t528] rfl az ?_;(with_reducible refine (impl_GoodsteinNext.calls k t527 t528 t529 _ A4.out).mono ?_);rintro e w82 ⟨rfl,hb⟩;refine ⟨_,rfl,?_⟩;have n0_ := Aside0.mk (below_step bz hb);clear HB;have HB := n0_;clear n0_;(try clear hb);(try clear hb2);(try clear hk);(try clear hi))|((with_reducible refine gate_callee (f := 31) rfl ?_);refine goesL_ (some 21) rfl rfl Try.func31 (by kernel_rfl) rfl #[.int .i64 t527,.int .i64 t528] rfl az ?_;(with_reducible refine (spec_GoodsteinNext.calls k t527 t528 t530 _ A5.out).mono ?_);rintro e w83 ⟨rfl,hb⟩;refine ⟨_,rfl,?_⟩;have n0_ := Aside0.mk (below_step bz hb);clear HB;have HB := n0_;clear n0_;(try clear hb);(try clear hb2);(try clear hk);(try clear hi)))
   go_ret
   exact ⟨by first|rfl|(simp [errW_none,errW_some] <;> rfl)|(simp [*,errW_none,errW_some] <;> rfl),bz⟩

/-- THE ONE PURE STATEMENT of laws_FnGoodsteinNext: yours. -/
def laws_FnGoodsteinNext.Pure : Prop := ∀ (l0 : List Int),l0.length ≤ maxLen → l0.length * 1 ≤ 140737488351232 → (∀ x ∈ l0,(Lit.int .u8 x).wf = true) → ∃ k,laws_FnGoodsteinNext.f k l0 = some true
theorem laws_FnGoodsteinNext.walk (P : laws_FnGoodsteinNext.Pure) (a0 : Option Addr) (len0 cap0 : Nat) (z0 : List Int) (w : World) (w0 : (a0 = none ∧ len0 = 0 ∧ cap0 = 0 ∧ z0 = []) ∨ ∃ x,a0 = some x ∧ len0 ≤ cap0 ∧ cap0 ≤ maxLen ∧ z0.length = cap0 ∧ (∀ i,i < z0.length → w.cell? (x.add i) = some (.int .u8 (z0.getD i 0))) ∧ ∀ n ∈ z0,(Lit.int .u8 n).wf = true) (y0 : len0 * 1 ≤ 140737488351232) :
  Calls Try.prog 7 #[.slice a0 len0 cap0] w fun e w' => e = .returned (.bool true) ∧ Below w.heap.size w w' := by
 obtain ⟨l0,rfl,hr0,hm0,hw0,hc0⟩ := ReadsInt.ofRowC w0
 obtain ⟨k,h⟩ := P l0 hm0 y0 hw0
 refine (laws_FnGoodsteinNext.calls k _ _ l0 true w (Kd.C_of_reads (d := (0 : Int)) (h1 := fun _ => rfl) hr0) hc0 h).mono ?_
 rintro e w' ⟨rfl,hd⟩
 exact ⟨rfl,hd⟩

end Go.Proofs.Ytpgkpahhohfmhaa.P
