/- The walk of one Go function that the law reaches: it comes to what the Lean function of its name tells. -/
import Derived.Test.YtpgkpahhohfmhaaP0
import Derived.Test.YtpgkpahhohfmhaaPimplGoodsteinNext
import Derived.Test.YtpgkpahhohfmhaaPimplOrdCompare
import Derived.Test.YtpgkpahhohfmhaaPimplPlainNext
import Derived.Test.YtpgkpahhohfmhaaPimplPlainOrd
import Derived.Test.YtpgkpahhohfmhaaPlawsalive
import Derived.Test.YtpgkpahhohfmhaaPspecDrawPlainNext
import Derived.Test.YtpgkpahhohfmhaaPspecPlainNext
namespace Go.Proofs.Ytpgkpahhohfmhaa.P
open Go.RowKit Go.Proofs.YtpgkpahhohfmhaaW.PrintWords Go.Proofs.YtpgkpahhohfmhaaW.PrintLast Go.Proofs.YtpgkpahhohfmhaaW.PrintMore
attribute [local go_sem] max2_int min2_int max_two min_two max_three min_three max_four min_four   
set_option linter.unusedVariables false
set_option linter.unusedSimpArgs false

/-! ### laws_FnPlainNext: function 5 -/
def laws_FnPlainNext.f (k : Nat) (l0 : List Int) : Option (Bool) := if (l0.length : Int) > 1048576 then (some true) else ((spec_DrawPlainNext.f k l0).bind fun bt443 => ((impl_PlainNext.f k bt443.1 bt443.2).bind fun t445 => ((spec_PlainNext.f k bt443.1 bt443.2).bind fun t446 => (if t445 = t446 then ((impl_GoodsteinNext.f k bt443.1 bt443.2).bind fun t447 => (if t445 < 0 then (if t445 = (-1) then (if t447 = (-1) then ((laws_alive.f k).bind fun t448 => (some t448)) else (some false)) else (some false)) else ((impl_PlainOrd.f k t445 (wrap64 (bt443.2 + 1))).bind fun t449 => ((impl_PlainOrd.f k bt443.1 bt443.2).bind fun t452 => (if (t449.length : Int) = 0 then (if t447 < 0 then (some true) else (some (decide (t445 ≤ t447)))) else (if (t452.length : Int) = 0 then (if t447 < 0 then (some true) else (some (decide (t445 ≤ t447)))) else ((impl_OrdCompare.f k t449 t452).bind fun t455 => (if t455 = (-1) then (if t447 < 0 then (some true) else (some (decide (t445 ≤ t447)))) else (some false))))))))) else (some false)))))
theorem laws_FnPlainNext.mono : ∀ a0 k,LeO (laws_FnPlainNext.f k a0) (laws_FnPlainNext.f (k + 1) a0) := by
 intro a0 k
 unfold laws_FnPlainNext.f
 repeat' first|(with_reducible first|exact impl_GoodsteinNext.mono _ _ _|exact impl_OrdCompare.mono _ _ _|exact impl_PlainNext.mono _ _ _|exact impl_PlainOrd.mono _ _ _|exact laws_alive.mono _|exact spec_DrawPlainNext.mono _ _|exact spec_PlainNext.mono _ _ _|exact LeO.refl _|exact LeO.none _|refine LeO.ite ?_ ?_|refine LeO.bind ?_ (fun _ => ?_))|exact impl_GoodsteinNext.mono _ _ _|exact impl_OrdCompare.mono _ _ _|exact impl_PlainNext.mono _ _ _|exact impl_PlainOrd.mono _ _ _|exact laws_alive.mono _|exact spec_DrawPlainNext.mono _ _|exact spec_PlainNext.mono _ _ _|exact LeO.none _|refine LeO.ite ?_ ?_|refine LeO.bind ?_ (fun _ => ?_)
set_option maxHeartbeats 8000000 in
set_option maxRecDepth 100000 in
theorem laws_FnPlainNext.calls (k : Nat) (A0 : Option Addr) (c0 : Nat) (l0 : List Int) (r : Bool) (w : World) (hr0 : Kd.C (Kd.int .u8) w A0 l0.length l0) (hc0 : l0.length ≤ c0) (h : laws_FnPlainNext.f k l0 = some r) :
  Calls Try.prog 5 #[.slice A0 l0.length c0] w fun e w' => e = .returned (.bool r) ∧ Below w.heap.size w w' := by
 have HR0 := Aside0.mk hr0
 have HC0 := Aside0.mk hc0
 clear hr0 hc0
 have HB := Aside0.mk (Below.refl w.heap.size w)
 have H : (if (l0.length : Int) > 1048576 then (some true) else ((spec_DrawPlainNext.f k l0).bind fun bt443 => ((impl_PlainNext.f k bt443.1 bt443.2).bind fun t445 => ((spec_PlainNext.f k bt443.1 bt443.2).bind fun t446 => (if t445 = t446 then ((impl_GoodsteinNext.f k bt443.1 bt443.2).bind fun t447 => (if t445 < 0 then (if t445 = (-1) then (if t447 = (-1) then ((laws_alive.f k).bind fun t448 => (some t448)) else (some false)) else (some false)) else ((impl_PlainOrd.f k t445 (wrap64 (bt443.2 + 1))).bind fun t449 => ((impl_PlainOrd.f k bt443.1 bt443.2).bind fun t452 => (if (t449.length : Int) = 0 then (if t447 < 0 then (some true) else (some (decide (t445 ≤ t447)))) else (if (t452.length : Int) = 0 then (if t447 < 0 then (some true) else (some (decide (t445 ≤ t447)))) else ((impl_OrdCompare.f k t449 t452).bind fun t455 => (if t455 = (-1) then (if t447 < 0 then (some true) else (some (decide (t445 ≤ t447)))) else (some false))))))))) else (some false)))))) = some r := h
 clear h
 by_cases c2 : (l0.length : Int) > 1048576
 ·rw [if_pos c2] at H
  have c2b0 : decide (1048576 < (l0.length : Int)) = true := decide_eq_true c2
  have c2b1 : decide (1048576 < l0.length) = true := decide_eq_true (by omega)
  clear c2
  obtain rfl := Option.some.inj H
  go_enter Try.func5,Try.ntmps5
  go_wp2
  go_ret
  exact ⟨by first|rfl|(simp [errW_none,errW_some] <;> rfl)|(simp [*,errW_none,errW_some] <;> rfl),bz⟩
 ·rw [if_neg c2] at H
  have c2b0 : decide (1048576 < (l0.length : Int)) = false := decide_eq_false c2
  have c2b1 : decide (1048576 < l0.length) = false := decide_eq_false (by omega)
  clear c2
  replace H := Option.bind_eq_some_iff.mp H
  obtain ⟨⟨t443,t444⟩,A30,H⟩ := H
  replace H : ((impl_PlainNext.f k t443 t444).bind fun t445 => ((spec_PlainNext.f k t443 t444).bind fun t446 => (if t445 = t446 then ((impl_GoodsteinNext.f k t443 t444).bind fun t447 => (if t445 < 0 then (if t445 = (-1) then (if t447 = (-1) then ((laws_alive.f k).bind fun t448 => (some t448)) else (some false)) else (some false)) else ((impl_PlainOrd.f k t445 (wrap64 (t444 + 1))).bind fun t449 => ((impl_PlainOrd.f k t443 t444).bind fun t452 => (if (t449.length : Int) = 0 then (if t447 < 0 then (some true) else (some (decide (t445 ≤ t447)))) else (if (t452.length : Int) = 0 then (if t447 < 0 then (some true) else (some (decide (t445 ≤ t447)))) else ((impl_OrdCompare.f k t449 t452).bind fun t455 => (if t455 = (-1) then (if t447 < 0 then (some true) else (some (decide (t445 ≤ t447)))) else (some false))))))))) else (some false)))) = some r := H
  have A3 := Aside0.mk A30
  clear A30
  replace H := Option.bind_eq_some_iff.mp H
  obtain ⟨t445,A40,H⟩ := H
  replace H : ((spec_PlainNext.f k t443 t444).bind fun t446 => (if t445 = t446 then ((impl_GoodsteinNext.f k t443 t444).bind fun t447 => (if t445 < 0 then (if t445 = (-1) then (if t447 = (-1) then ((laws_alive.f k).bind fun t448 => (some t448)) else (some false)) else (some false)) else ((impl_PlainOrd.f k t445 (wrap64 (t444 + 1))).bind fun t449 => ((impl_PlainOrd.f k t443 t444).bind fun t452 => (if (t449.length : Int) = 0 then (if t447 < 0 then (some true) else (some (decide (t445 ≤ t447)))) else (if (t452.length : Int) = 0 then (if t447 < 0 then (some true) else (some (decide (t445 ≤ t447)))) else ((impl_OrdCompare.f k t449 t452).bind fun t455 => (if t455 = (-1) then (if t447 < 0 then (some true) else (some (decide (t445 ≤ t447)))) else (some false))))))))) else (some false))) = some r := H
  have A4 := Aside0.mk A40
  clear A40
  replace H := Option.bind_eq_some_iff.mp H
  obtain ⟨t446,A50,H⟩ := H
  replace H : (if t445 = t446 then ((impl_GoodsteinNext.f k t443 t444).bind fun t447 => (if t445 < 0 then (if t445 = (-1) then (if t447 = (-1) then ((laws_alive.f k).bind fun t448 => (some t448)) else (some false)) else (some false)) else ((impl_PlainOrd.f k t445 (wrap64 (t444 + 1))).bind fun t449 => ((impl_PlainOrd.f k t443 t444).bind fun t452 => (if (t449.length : Int) = 0 then (if t447 < 0 then (some true) else (some (decide (t445 ≤ t447)))) else (if (t452.length : Int) = 0 then (if t447 < 0 then (some true) else (some (decide (t445 ≤ t447)))) else ((impl_OrdCompare.f k t449 t452).bind fun t455 => (if t455 = (-1) then (if t447 < 0 then (some true) else (some (decide (t445 ≤ t447)))) else (some false))))))))) else (some false)) = some r := H
  have A5 := Aside0.mk A50
  clear A50
  by_cases c6 : t445 = t446
  ·rw [if_pos c6] at H
   have c6b0 : (t445 == t446) = true := beq_iff_eq.mpr c6
   have c6b1 : (t445 != t446) = false := bne_eq_false_iff_eq.mpr c6
   clear c6
   replace H := Option.bind_eq_some_iff.mp H
   obtain ⟨t447,A70,H⟩ := H
   replace H : (if t445 < 0 then (if t445 = (-1) then (if t447 = (-1) then ((laws_alive.f k).bind fun t448 => (some t448)) else (some false)) else (some false)) else ((impl_PlainOrd.f k t445 (wrap64 (t444 + 1))).bind fun t449 => ((impl_PlainOrd.f k t443 t444).bind fun t452 => (if (t449.length : Int) = 0 then (if t447 < 0 then (some true) else (some (decide (t445 ≤ t447)))) else (if (t452.length : Int) = 0 then (if t447 < 0 then (some true) else (some (decide (t445 ≤ t447)))) else ((impl_OrdCompare.f k t449 t452).bind fun t455 => (if t455 = (-1) then (if t447 < 0 then (some true) else (some (decide (t445 ≤ t447)))) else (some false)))))))) = some r := H
   have A7 := Aside0.mk A70
   clear A70
   by_cases c8 : t445 < 0
   ·rw [if_pos c8] at H
    have c8b0 : decide (t445 < 0) = true := decide_eq_true c8
    clear c8
    by_cases c9 : t445 = (-1)
    ·rw [if_pos c9] at H
     have c9b0 : (t445 == (-1)) = true := beq_iff_eq.mpr c9
     have c9b1 : (t445 != (-1)) = false := bne_eq_false_iff_eq.mpr c9
     clear c9
     by_cases c10 : t447 = (-1)
     ·rw [if_pos c10] at H
      have c10b0 : (t447 == (-1)) = true := beq_iff_eq.mpr c10
      have c10b1 : (t447 != (-1)) = false := bne_eq_false_iff_eq.mpr c10
      clear c10
      replace H := Option.bind_eq_some_iff.mp H
      obtain ⟨t448,A110,H⟩ := H
      replace H : (some t448) = some r := H
      have A11 := Aside0.mk A110
      clear A110
      obtain rfl := Option.some.inj H
      go_enter Try.func5,Try.ntmps5
      go_wp2_with (first|((with_reducible refine gate_callee (f := 23) rfl ?_);refine goesL_ (some 14) rfl rfl Try.func23 (by kernel_rfl) rfl #[.slice A0 l0.length c0] rfl az ?_;(with_reducible refine (spec_DrawPlainNext.calls k _ _ l0 t443 t444 _ ?side1 ?side2 A3.out).mono ?_);(case side1 => exact Kd.Cz HR0.out);(case side2 => exact HC0.out);rintro e w12 ⟨rfl,hb⟩;refine ⟨_,rfl,?_⟩;have n0_ := Aside0.mk (below_step bz hb);clear HB;have HB := n0_;clear n0_;(try clear hb);(try clear hb2);(try clear hk);(try clear hi))|((with_reducible refine gate_callee (f := 24) rfl ?_);refine goesL_ (some 19) rfl rfl Try.func24 (by kernel_rfl) rfl #[.int .i64 t443,.int .i64 t444] rfl az ?_;(with_reducible refine (impl_PlainNext.calls k t443 t444 t445 _ A4.out).mono ?_);rintro e w13 ⟨rfl,hb⟩;refine ⟨_,rfl,?_⟩;have n0_ := Aside0.mk (below_step bz hb);clear HB;have HB := n0_;clear n0_;(try clear hb);(try clear hb2);(try clear hk);(try clear hi))|((with_reducible refine gate_callee (f := 25) rfl ?_);refine goesL_ (some 23) rfl rfl Try.func25 (by kernel_rfl) rfl #[.int .i64 t443,.int .i64 t444] rfl az ?_;(with_reducible refine (spec_PlainNext.calls k t443 t444 t446 _ A5.out).mono ?_);rintro e w' ⟨rfl,⟨nd,rfl⟩⟩;refine ⟨_,rfl,?_⟩)|((with_reducible refine gate_callee (f := 26) rfl ?_);refine goesL_ (some 27) rfl rfl Try.func26 (by kernel_rfl) rfl #[.int .i64 t443,.int .i64 t444] rfl az ?_;(with_reducible refine (impl_GoodsteinNext.calls k t443 t444 t447 _ A7.out).mono ?_);rintro e w14 ⟨rfl,hb⟩;refine ⟨_,rfl,?_⟩;have n0_ := Aside0.mk (below_step bz hb);clear HB;have HB := n0_;clear n0_;(try clear hb);(try clear hb2);(try clear hk);(try clear hi))|(go_at_call 15;(with_reducible refine (laws_alive.calls k  t448 _ A11.out).mono ?_);rintro e w15 ⟨rfl,hb⟩;have n0_ := Aside0.mk (below_step bz hb);clear HB;have HB := n0_;clear n0_;(try clear hb);(try clear hb2);(try clear hk);(try clear hi)))
      go_ret
      exact ⟨by first|rfl|(simp [errW_none,errW_some] <;> rfl)|(simp [*,errW_none,errW_some] <;> rfl),bz⟩
     ·rw [if_neg c10] at H
      have c10b0 : (t447 == (-1)) = false := beq_eq_false_iff_ne.mpr c10
      have c10b1 : (t447 != (-1)) = true := bne_iff_ne.mpr c10
      obtain rfl := Option.some.inj H
      go_enter Try.func5,Try.ntmps5
      go_wp2_with (first|((with_reducible refine gate_callee (f := 23) rfl ?_);refine goesL_ (some 14) rfl rfl Try.func23 (by kernel_rfl) rfl #[.slice A0 l0.length c0] rfl az ?_;(with_reducible refine (spec_DrawPlainNext.calls k _ _ l0 t443 t444 _ ?side1 ?side2 A3.out).mono ?_);(case side1 => exact Kd.Cz HR0.out);(case side2 => exact HC0.out);rintro e w16 ⟨rfl,hb⟩;refine ⟨_,rfl,?_⟩;have n0_ := Aside0.mk (below_step bz hb);clear HB;have HB := n0_;clear n0_;(try clear hb);(try clear hb2);(try clear hk);(try clear hi))|((with_reducible refine gate_callee (f := 24) rfl ?_);refine goesL_ (some 19) rfl rfl Try.func24 (by kernel_rfl) rfl #[.int .i64 t443,.int .i64 t444] rfl az ?_;(with_reducible refine (impl_PlainNext.calls k t443 t444 t445 _ A4.out).mono ?_);rintro e w17 ⟨rfl,hb⟩;refine ⟨_,rfl,?_⟩;have n0_ := Aside0.mk (below_step bz hb);clear HB;have HB := n0_;clear n0_;(try clear hb);(try clear hb2);(try clear hk);(try clear hi))|((with_reducible refine gate_callee (f := 25) rfl ?_);refine goesL_ (some 23) rfl rfl Try.func25 (by kernel_rfl) rfl #[.int .i64 t443,.int .i64 t444] rfl az ?_;(with_reducible refine (spec_PlainNext.calls k t443 t444 t446 _ A5.out).mono ?_);rintro e w' ⟨rfl,⟨nd,rfl⟩⟩;refine ⟨_,rfl,?_⟩)|((with_reducible refine gate_callee (f := 26) rfl ?_);refine goesL_ (some 27) rfl rfl Try.func26 (by kernel_rfl) rfl #[.int .i64 t443,.int .i64 t444] rfl az ?_;(with_reducible refine (impl_GoodsteinNext.calls k t443 t444 t447 _ A7.out).mono ?_);rintro e w18 ⟨rfl,hb⟩;refine ⟨_,rfl,?_⟩;have n0_ := Aside0.mk (below_step bz hb);clear HB;have HB := n0_;clear n0_;(try clear hb);(try clear hb2);(try clear hk);(try clear hi)))
      go_ret
      exact ⟨by first|rfl|(simp [errW_none,errW_some] <;> rfl)|(simp [*,errW_none,errW_some] <;> rfl),bz⟩
    ·rw [if_neg c9] at H
     have c9b0 : (t445 == (-1)) = false := beq_eq_false_iff_ne.mpr c9
     have c9b1 : (t445 != (-1)) = true := bne_iff_ne.mpr c9
     obtain rfl := Option.some.inj H
     go_enter Try.func5,Try.ntmps5
     go_wp2_with (first|((with_reducible refine gate_callee (f := 23) rfl ?_);refine goesL_ (some 14) rfl rfl Try.func23 (by kernel_rfl) rfl #[.slice A0 l0.length c0] rfl az ?_;(with_reducible refine (spec_DrawPlainNext.calls k _ _ l0 t443 t444 _ ?side1 ?side2 A3.out).mono ?_);(case side1 => exact Kd.Cz HR0.out);(case side2 => exact HC0.out);rintro e w19 ⟨rfl,hb⟩;refine ⟨_,rfl,?_⟩;have n0_ := Aside0.mk (below_step bz hb);clear HB;have HB := n0_;clear n0_;(try clear hb);(try clear hb2);(try clear hk);(try clear hi))|((with_reducible refine gate_callee (f := 24) rfl ?_);refine goesL_ (some 19) rfl rfl Try.func24 (by kernel_rfl) rfl #[.int .i64 t443,.int .i64 t444] rfl az ?_;(with_reducible refine (impl_PlainNext.calls k t443 t444 t445 _ A4.out).mono ?_);rintro e w20 ⟨rfl,hb⟩;refine ⟨_,rfl,?_⟩;have n0_ := Aside0.mk (below_step bz hb);clear HB;have HB := n0_;clear n0_;(try clear hb);(try clear hb2);(try clear hk);(try clear hi))|((with_reducible refine gate_callee (f := 25) rfl ?_);refine goesL_ (some 23) rfl rfl Try.func25 (by kernel_rfl) rfl #[.int .i64 t443,.int .i64 t444] rfl az ?_;(with_reducible refine (spec_PlainNext.calls k t443 t444 t446 _ A5.out).mono ?_);rintro e w' ⟨rfl,⟨nd,rfl⟩⟩;refine ⟨_,rfl,?_⟩)|((with_reducible refine gate_callee (f := 26) rfl ?_);refine goesL_ (some 27) rfl rfl Try.func26 (by kernel_rfl) rfl #[.int .i64 t443,.int .i64 t444] rfl az ?_;(with_reducible refine (impl_GoodsteinNext.calls k t443 t444 t447 _ A7.out).mono ?_);rintro e w21 ⟨rfl,hb⟩;refine ⟨_,rfl,?_⟩;have n0_ := Aside0.mk (below_step bz hb);clear HB;have HB := n0_;clear n0_;(try clear hb);(try clear hb2);(try clear hk);(try clear hi)))
     go_ret
     exact ⟨by first|rfl|(simp [errW_none,errW_some] <;> rfl)|(simp [*,errW_none,errW_some] <;> rfl),bz⟩
   ·rw [if_neg c8] at H
    have c8b0 : decide (t445 < 0) = false := decide_eq_false c8
    clear c8
    replace H := Option.bind_eq_some_iff.mp H
    obtain ⟨t449,A220,H⟩ := H
    replace H : ((impl_PlainOrd.f k t443 t444).bind fun t452 => (if (t449.length : Int) = 0 then (if t447 < 0 then (some true) else (some (decide (t445 ≤ t447)))) else (if (t452.length : Int) = 0 then (if t447 < 0 then (some true) else (some (decide (t445 ≤ t447)))) else ((impl_OrdCompare.f k t449 t452).bind fun t455 => (if t455 = (-1) then (if t447 < 0 then (some true) else (some (decide (t445 ≤ t447)))) else (some false)))))) = some r := H
    have A22 := Aside0.mk A220
    clear A220
    replace H := Option.bind_eq_some_iff.mp H
    obtain ⟨t452,A230,H⟩ := H
    replace H : (if (t449.length : Int) = 0 then (if t447 < 0 then (some true) else (some (decide (t445 ≤ t447)))) else (if (t452.length : Int) = 0 then (if t447 < 0 then (some true) else (some (decide (t445 ≤ t447)))) else ((impl_OrdCompare.f k t449 t452).bind fun t455 => (if t455 = (-1) then (if t447 < 0 then (some true) else (some (decide (t445 ≤ t447)))) else (some false))))) = some r := H
    have A23 := Aside0.mk A230
    clear A230
    by_cases c24 : (t449.length : Int) = 0
    ·rw [if_pos c24] at H
     have c24b0 : ((t449.length : Int) == 0) = true := beq_iff_eq.mpr c24
     have c24b1 : ((t449.length : Int) != 0) = false := bne_eq_false_iff_eq.mpr c24
     clear c24
     by_cases c25 : t447 < 0
     ·rw [if_pos c25] at H
      have c25b0 : decide (t447 < 0) = true := decide_eq_true c25
      clear c25
      obtain rfl := Option.some.inj H
      go_enter Try.func5,Try.ntmps5
      go_wp2_with (first|((with_reducible refine gate_callee (f := 23) rfl ?_);refine goesL_ (some 14) rfl rfl Try.func23 (by kernel_rfl) rfl #[.slice A0 l0.length c0] rfl az ?_;(with_reducible refine (spec_DrawPlainNext.calls k _ _ l0 t443 t444 _ ?side1 ?side2 A3.out).mono ?_);(case side1 => exact Kd.Cz HR0.out);(case side2 => exact HC0.out);rintro e w26 ⟨rfl,hb⟩;refine ⟨_,rfl,?_⟩;have n0_ := Aside0.mk (below_step bz hb);clear HB;have HB := n0_;clear n0_;(try clear hb);(try clear hb2);(try clear hk);(try clear hi))|((with_reducible refine gate_callee (f := 24) rfl ?_);refine goesL_ (some 19) rfl rfl Try.func24 (by kernel_rfl) rfl #[.int .i64 t443,.int .i64 t444] rfl az ?_;(with_reducible refine (impl_PlainNext.calls k t443 t444 t445 _ A4.out).mono ?_);rintro e w27 ⟨rfl,hb⟩;refine ⟨_,rfl,?_⟩;have n0_ := Aside0.mk (below_step bz hb);clear HB;have HB := n0_;clear n0_;(try clear hb);(try clear hb2);(try clear hk);(try clear hi))|((with_reducible refine gate_callee (f := 25) rfl ?_);refine goesL_ (some 23) rfl rfl Try.func25 (by kernel_rfl) rfl #[.int .i64 t443,.int .i64 t444] rfl az ?_;(with_reducible refine (spec_PlainNext.calls k t443 t444 t446 _ A5.out).mono ?_);rintro e w' ⟨rfl,⟨nd,rfl⟩⟩;refine ⟨_,rfl,?_⟩)|((with_reducible refine gate_callee (f := 26) rfl ?_);refine goesL_ (some 27) rfl rfl Try.func26 (by kernel_rfl) rfl #[.int .i64 t443,.int .i64 t444] rfl az ?_;(with_reducible refine (impl_GoodsteinNext.calls k t443 t444 t447 _ A7.out).mono ?_);rintro e w28 ⟨rfl,hb⟩;refine ⟨_,rfl,?_⟩;have n0_ := Aside0.mk (below_step bz hb);clear HB;have HB := n0_;clear n0_;(try clear hb);(try clear hb2);(try clear hk);(try clear hi))|((with_reducible refine gate_callee (f := 21) rfl ?_);refine goesL_ (some 42) rfl rfl Try.func21 (by kernel_rfl) rfl #[.int .i64 t445,.int .i64 (wrap64 (t444 + 1))] rfl az ?_;(with_reducible refine (impl_PlainOrd.calls k t445 (wrap64 (t444 + 1)) t449 _ A22.out).mono ?_);rintro e w29 ⟨v450,rfl,ho0,hb⟩;refine ⟨_,rfl,?_⟩;have n0_ := Aside0.mk (Kd.R_lower ho0 (below_size bz));have n1_ := Aside0.mk (below_step bz hb);clear HB;have HO451 := n0_;have HB := n1_;clear n0_ n1_;(try clear hb);(try clear hb2);(try clear hk);(try clear hi);(try clear ho0))|((with_reducible refine gate_callee (f := 21) rfl ?_);refine goesL_ (some 45) rfl rfl Try.func21 (by kernel_rfl) rfl #[.int .i64 t443,.int .i64 t444] rfl az ?_;(with_reducible refine (impl_PlainOrd.calls k t443 t444 t452 _ A23.out).mono ?_);rintro e w30 ⟨v453,rfl,ho0,hb⟩;refine ⟨_,rfl,?_⟩;have n0_ := Aside0.mk (Kd.R_elder' (Kd.Rz HO451.out) (Kd.R_base ho0) hb);have n1_ := Aside0.mk (Kd.R_lower (Kd.R_new' ho0 (Kd.R_lt (Kd.Rz HO451.out))) (below_size bz));have n2_ := Aside0.mk (below_step bz hb);clear HO451;clear HB;have HO451 := n0_;have HO454 := n1_;have HB := n2_;clear n0_ n1_ n2_;(try clear hb);(try clear hb2);(try clear hk);(try clear hi);(try clear ho0);obtain ⟨Ao31,co31,eo31⟩ := Kd.R_slice HO451.out;subst eo31))
      go_ret
      exact ⟨by first|rfl|(simp [errW_none,errW_some] <;> rfl)|(simp [*,errW_none,errW_some] <;> rfl),bz⟩
     ·rw [if_neg c25] at H
      have c25b0 : decide (t447 < 0) = false := decide_eq_false c25
      clear c25
      obtain rfl := Option.some.inj H
      go_enter Try.func5,Try.ntmps5
      go_wp2_with (first|((with_reducible refine gate_callee (f := 23) rfl ?_);refine goesL_ (some 14) rfl rfl Try.func23 (by kernel_rfl) rfl #[.slice A0 l0.length c0] rfl az ?_;(with_reducible refine (spec_DrawPlainNext.calls k _ _ l0 t443 t444 _ ?side1 ?side2 A3.out).mono ?_);(case side1 => exact Kd.Cz HR0.out);(case side2 => exact HC0.out);rintro e w32 ⟨rfl,hb⟩;refine ⟨_,rfl,?_⟩;have n0_ := Aside0.mk (below_step bz hb);clear HB;have HB := n0_;clear n0_;(try clear hb);(try clear hb2);(try clear hk);(try clear hi))|((with_reducible refine gate_callee (f := 24) rfl ?_);refine goesL_ (some 19) rfl rfl Try.func24 (by kernel_rfl) rfl #[.int .i64 t443,.int .i64 t444] rfl az ?_;(with_reducible refine (impl_PlainNext.calls k t443 t444 t445 _ A4.out).mono ?_);rintro e w33 ⟨rfl,hb⟩;refine ⟨_,rfl,?_⟩;have n0_ := Aside0.mk (below_step bz hb);clear HB;have HB := n0_;clear n0_;(try clear hb);(try clear hb2);(try clear hk);(try clear hi))|((with_reducible refine gate_callee (f := 25) rfl ?_);refine goesL_ (some 23) rfl rfl Try.func25 (by kernel_rfl) rfl #[.int .i64 t443,.int .i64 t444] rfl az ?_;(with_reducible refine (spec_PlainNext.calls k t443 t444 t446 _ A5.out).mono ?_);rintro e w' ⟨rfl,⟨nd,rfl⟩⟩;refine ⟨_,rfl,?_⟩)|((with_reducible refine gate_callee (f := 26) rfl ?_);refine goesL_ (some 27) rfl rfl Try.func26 (by kernel_rfl) rfl #[.int .i64 t443,.int .i64 t444] rfl az ?_;(with_reducible refine (impl_GoodsteinNext.calls k t443 t444 t447 _ A7.out).mono ?_);rintro e w34 ⟨rfl,hb⟩;refine ⟨_,rfl,?_⟩;have n0_ := Aside0.mk (below_step bz hb);clear HB;have HB := n0_;clear n0_;(try clear hb);(try clear hb2);(try clear hk);(try clear hi))|((with_reducible refine gate_callee (f := 21) rfl ?_);refine goesL_ (some 42) rfl rfl Try.func21 (by kernel_rfl) rfl #[.int .i64 t445,.int .i64 (wrap64 (t444 + 1))] rfl az ?_;(with_reducible refine (impl_PlainOrd.calls k t445 (wrap64 (t444 + 1)) t449 _ A22.out).mono ?_);rintro e w35 ⟨v450,rfl,ho0,hb⟩;refine ⟨_,rfl,?_⟩;have n0_ := Aside0.mk (Kd.R_lower ho0 (below_size bz));have n1_ := Aside0.mk (below_step bz hb);clear HB;have HO451 := n0_;have HB := n1_;clear n0_ n1_;(try clear hb);(try clear hb2);(try clear hk);(try clear hi);(try clear ho0))|((with_reducible refine gate_callee (f := 21) rfl ?_);refine goesL_ (some 45) rfl rfl Try.func21 (by kernel_rfl) rfl #[.int .i64 t443,.int .i64 t444] rfl az ?_;(with_reducible refine (impl_PlainOrd.calls k t443 t444 t452 _ A23.out).mono ?_);rintro e w36 ⟨v453,rfl,ho0,hb⟩;refine ⟨_,rfl,?_⟩;have n0_ := Aside0.mk (Kd.R_elder' (Kd.Rz HO451.out) (Kd.R_base ho0) hb);have n1_ := Aside0.mk (Kd.R_lower (Kd.R_new' ho0 (Kd.R_lt (Kd.Rz HO451.out))) (below_size bz));have n2_ := Aside0.mk (below_step bz hb);clear HO451;clear HB;have HO451 := n0_;have HO454 := n1_;have HB := n2_;clear n0_ n1_ n2_;(try clear hb);(try clear hb2);(try clear hk);(try clear hi);(try clear ho0);obtain ⟨Ao37,co37,eo37⟩ := Kd.R_slice HO451.out;subst eo37))
      go_ret
      exact ⟨by first|rfl|(simp [errW_none,errW_some] <;> rfl)|(simp [*,errW_none,errW_some] <;> rfl),bz⟩
    ·rw [if_neg c24] at H
     have c24b0 : ((t449.length : Int) == 0) = false := beq_eq_false_iff_ne.mpr c24
     have c24b1 : ((t449.length : Int) != 0) = true := bne_iff_ne.mpr c24
     have c24b2 : ¬ (t449 = []) := fun h_ => c24 (by rw [h_];rfl)
     by_cases c38 : (t452.length : Int) = 0
     ·rw [if_pos c38] at H
      have c38b0 : ((t452.length : Int) == 0) = true := beq_iff_eq.mpr c38
      have c38b1 : ((t452.length : Int) != 0) = false := bne_eq_false_iff_eq.mpr c38
      clear c38
      by_cases c39 : t447 < 0
      ·rw [if_pos c39] at H
       have c39b0 : decide (t447 < 0) = true := decide_eq_true c39
       clear c39
       obtain rfl := Option.some.inj H
       go_enter Try.func5,Try.ntmps5
       go_wp2_with (first|((with_reducible refine gate_callee (f := 23) rfl ?_);refine goesL_ (some 14) rfl rfl Try.func23 (by kernel_rfl) rfl #[.slice A0 l0.length c0] rfl az ?_;(with_reducible refine (spec_DrawPlainNext.calls k _ _ l0 t443 t444 _ ?side1 ?side2 A3.out).mono ?_);(case side1 => exact Kd.Cz HR0.out);(case side2 => exact HC0.out);rintro e w40 ⟨rfl,hb⟩;refine ⟨_,rfl,?_⟩;have n0_ := Aside0.mk (below_step bz hb);clear HB;have HB := n0_;clear n0_;(try clear hb);(try clear hb2);(try clear hk);(try clear hi))|((with_reducible refine gate_callee (f := 24) rfl ?_);refine goesL_ (some 19) rfl rfl Try.func24 (by kernel_rfl) rfl #[.int .i64 t443,.int .i64 t444] rfl az ?_;(with_reducible refine (impl_PlainNext.calls k t443 t444 t445 _ A4.out).mono ?_);rintro e w41 ⟨rfl,hb⟩;refine ⟨_,rfl,?_⟩;have n0_ := Aside0.mk (below_step bz hb);clear HB;have HB := n0_;clear n0_;(try clear hb);(try clear hb2);(try clear hk);(try clear hi))|((with_reducible refine gate_callee (f := 25) rfl ?_);refine goesL_ (some 23) rfl rfl Try.func25 (by kernel_rfl) rfl #[.int .i64 t443,.int .i64 t444] rfl az ?_;(with_reducible refine (spec_PlainNext.calls k t443 t444 t446 _ A5.out).mono ?_);rintro e w' ⟨rfl,⟨nd,rfl⟩⟩;refine ⟨_,rfl,?_⟩)|((with_reducible refine gate_callee (f := 26) rfl ?_);refine goesL_ (some 27) rfl rfl Try.func26 (by kernel_rfl) rfl #[.int .i64 t443,.int .i64 t444] rfl az ?_;(with_reducible refine (impl_GoodsteinNext.calls k t443 t444 t447 _ A7.out).mono ?_);rintro e w42 ⟨rfl,hb⟩;refine ⟨_,rfl,?_⟩;have n0_ := Aside0.mk (below_step bz hb);clear HB;have HB := n0_;clear n0_;(try clear hb);(try clear hb2);(try clear hk);(try clear hi))|((with_reducible refine gate_callee (f := 21) rfl ?_);refine goesL_ (some 42) rfl rfl Try.func21 (by kernel_rfl) rfl #[.int .i64 t445,.int .i64 (wrap64 (t444 + 1))] rfl az ?_;(with_reducible refine (impl_PlainOrd.calls k t445 (wrap64 (t444 + 1)) t449 _ A22.out).mono ?_);rintro e w43 ⟨v450,rfl,ho0,hb⟩;refine ⟨_,rfl,?_⟩;have n0_ := Aside0.mk (Kd.R_lower ho0 (below_size bz));have n1_ := Aside0.mk (below_step bz hb);clear HB;have HO451 := n0_;have HB := n1_;clear n0_ n1_;(try clear hb);(try clear hb2);(try clear hk);(try clear hi);(try clear ho0))|((with_reducible refine gate_callee (f := 21) rfl ?_);refine goesL_ (some 45) rfl rfl Try.func21 (by kernel_rfl) rfl #[.int .i64 t443,.int .i64 t444] rfl az ?_;(with_reducible refine (impl_PlainOrd.calls k t443 t444 t452 _ A23.out).mono ?_);rintro e w44 ⟨v453,rfl,ho0,hb⟩;refine ⟨_,rfl,?_⟩;have n0_ := Aside0.mk (Kd.R_elder' (Kd.Rz HO451.out) (Kd.R_base ho0) hb);have n1_ := Aside0.mk (Kd.R_lower (Kd.R_new' ho0 (Kd.R_lt (Kd.Rz HO451.out))) (below_size bz));have n2_ := Aside0.mk (below_step bz hb);clear HO451;clear HB;have HO451 := n0_;have HO454 := n1_;have HB := n2_;clear n0_ n1_ n2_;(try clear hb);(try clear hb2);(try clear hk);(try clear hi);(try clear ho0);obtain ⟨Ao45,co45,eo45⟩ := Kd.R_slice HO451.out;subst eo45;obtain ⟨Ao46,co46,eo46⟩ := Kd.R_slice HO454.out;subst eo46))
       go_ret
       exact ⟨by first|rfl|(simp [errW_none,errW_some] <;> rfl)|(simp [*,errW_none,errW_some] <;> rfl),bz⟩
      ·rw [if_neg c39] at H
       have c39b0 : decide (t447 < 0) = false := decide_eq_false c39
       clear c39
       obtain rfl := Option.some.inj H
       go_enter Try.func5,Try.ntmps5
       go_wp2_with (first|((with_reducible refine gate_callee (f := 23) rfl ?_);refine goesL_ (some 14) rfl rfl Try.func23 (by kernel_rfl) rfl #[.slice A0 l0.length c0] rfl az ?_;(with_reducible refine (spec_DrawPlainNext.calls k _ _ l0 t443 t444 _ ?side1 ?side2 A3.out).mono ?_);(case side1 => exact Kd.Cz HR0.out);(case side2 => exact HC0.out);rintro e w47 ⟨rfl,hb⟩;refine ⟨_,rfl,?_⟩;have n0_ := Aside0.mk (below_step bz hb);clear HB;have HB := n0_;clear n0_;(try clear hb);(try clear hb2);(try clear hk);(try clear hi))|((with_reducible refine gate_callee (f := 24) rfl ?_);refine goesL_ (some 19) rfl rfl Try.func24 (by kernel_rfl) rfl #[.int .i64 t443,.int .i64 t444] rfl az ?_;(with_reducible refine (impl_PlainNext.calls k t443 t444 t445 _ A4.out).mono ?_);rintro e w48 ⟨rfl,hb⟩;refine ⟨_,rfl,?_⟩;have n0_ := Aside0.mk (below_step bz hb);clear HB;have HB := n0_;clear n0_;(try clear hb);(try clear hb2);(try clear hk);(try clear hi))|((with_reducible refine gate_callee (f := 25) rfl ?_);refine goesL_ (some 23) rfl rfl Try.func25 (by kernel_rfl) rfl #[.int .i64 t443,.int .i64 t444] rfl az ?_;(with_reducible refine (spec_PlainNext.calls k t443 t444 t446 _ A5.out).mono ?_);rintro e w' ⟨rfl,⟨nd,rfl⟩⟩;refine ⟨_,rfl,?_⟩)|((with_reducible refine gate_callee (f := 26) rfl ?_);refine goesL_ (some 27) rfl rfl Try.func26 (by kernel_rfl) rfl #[.int .i64 t443,.int .i64 t444] rfl az ?_;(with_reducible refine (impl_GoodsteinNext.calls k t443 t444 t447 _ A7.out).mono ?_);rintro e w49 ⟨rfl,hb⟩;refine ⟨_,rfl,?_⟩;have n0_ := Aside0.mk (below_step bz hb);clear HB;have HB := n0_;clear n0_;(try clear hb);(try clear hb2);(try clear hk);(try clear hi))|((with_reducible refine gate_callee (f := 21) rfl ?_);refine goesL_ (some 42) rfl rfl Try.func21 (by kernel_rfl) rfl #[.int .i64 t445,.int .i64 (wrap64 (t444 + 1))] rfl az ?_;(with_reducible refine (impl_PlainOrd.calls k t445 (wrap64 (t444 + 1)) t449 _ A22.out).mono ?_);rintro e w50 ⟨v450,rfl,ho0,hb⟩;refine ⟨_,rfl,?_⟩;have n0_ := Aside0.mk (Kd.R_lower ho0 (below_size bz));have n1_ := Aside0.mk (below_step bz hb);clear HB;have HO451 := n0_;have HB := n1_;clear n0_ n1_;(try clear hb);(try clear hb2);(try clear hk);(try clear hi);(try clear ho0))|((with_reducible refine gate_callee (f := 21) rfl ?_);refine goesL_ (some 45) rfl rfl Try.func21 (by kernel_rfl) rfl #[.int .i64 t443,.int .i64 t444] rfl az ?_;(with_reducible refine (impl_PlainOrd.calls k t443 t444 t452 _ A23.out).mono ?_);rintro e w51 ⟨v453,rfl,ho0,hb⟩;refine ⟨_,rfl,?_⟩;have n0_ := Aside0.mk (Kd.R_elder' (Kd.Rz HO451.out) (Kd.R_base ho0) hb);have n1_ := Aside0.mk (Kd.R_lower (Kd.R_new' ho0 (Kd.R_lt (Kd.Rz HO451.out))) (below_size bz));have n2_ := Aside0.mk (below_step bz hb);clear HO451;clear HB;have HO451 := n0_;have HO454 := n1_;have HB := n2_;clear n0_ n1_ n2_;(try clear hb);(try clear hb2);(try clear hk);(try clear hi);(try clear ho0);obtain ⟨Ao52,co52,eo52⟩ := Kd.R_slice HO451.out;subst eo52;obtain ⟨Ao53,co53,eo53⟩ := Kd.R_slice HO454.out;subst eo53))
       go_ret
       exact ⟨by first|rfl|(simp [errW_none,errW_some] <;> rfl)|(simp [*,errW_none,errW_some] <;> rfl),bz⟩
     ·rw [if_neg c38] at H
      have c38b0 : ((t452.length : Int) == 0) = false := beq_eq_false_iff_ne.mpr c38
      have c38b1 : ((t452.length : Int) != 0) = true := bne_iff_ne.mpr c38
      have c38b2 : ¬ (t452 = []) := fun h_ => c38 (by rw [h_];rfl)
      replace H := Option.bind_eq_some_iff.mp H
      obtain ⟨t455,A540,H⟩ := H
      replace H : (if t455 = (-1) then (if t447 < 0 then (some true) else (some (decide (t445 ≤ t447)))) else (some false)) = some r := H
      have A54 := Aside0.mk A540
      clear A540
      by_cases c55 : t455 = (-1)
      ·rw [if_pos c55] at H
       have c55b0 : (t455 == (-1)) = true := beq_iff_eq.mpr c55
       have c55b1 : (t455 != (-1)) = false := bne_eq_false_iff_eq.mpr c55
       clear c55
       by_cases c56 : t447 < 0
       ·rw [if_pos c56] at H
        have c56b0 : decide (t447 < 0) = true := decide_eq_true c56
        clear c56
        obtain rfl := Option.some.inj H
        go_enter Try.func5,Try.ntmps5
        go_wp2_with (first|((with_reducible refine gate_callee (f := 23) rfl ?_);refine goesL_ (some 14) rfl rfl Try.func23 (by kernel_rfl) rfl #[.slice A0 l0.length c0] rfl az ?_;(with_reducible refine (spec_DrawPlainNext.calls k _ _ l0 t443 t444 _ ?side1 ?side2 A3.out).mono ?_);(case side1 => exact Kd.Cz HR0.out);(case side2 => exact HC0.out);rintro e w57 ⟨rfl,hb⟩;refine ⟨_,rfl,?_⟩;have n0_ := Aside0.mk (below_step bz hb);clear HB;have HB := n0_;clear n0_;(try clear hb);(try clear hb2);(try clear hk);(try clear hi))|((with_reducible refine gate_callee (f := 24) rfl ?_);refine goesL_ (some 19) rfl rfl Try.func24 (by kernel_rfl) rfl #[.int .i64 t443,.int .i64 t444] rfl az ?_;(with_reducible refine (impl_PlainNext.calls k t443 t444 t445 _ A4.out).mono ?_);rintro e w58 ⟨rfl,hb⟩;refine ⟨_,rfl,?_⟩;have n0_ := Aside0.mk (below_step bz hb);clear HB;have HB := n0_;clear n0_;(try clear hb);(try clear hb2);(try clear hk);(try clear hi))|((with_reducible refine gate_callee (f := 25) rfl ?_);refine goesL_ (some 23) rfl rfl Try.func25 (by kernel_rfl) rfl #[.int .i64 t443,.int .i64 t444] rfl az ?_;(with_reducible refine (spec_PlainNext.calls k t443 t444 t446 _ A5.out).mono ?_);rintro e w' ⟨rfl,⟨nd,rfl⟩⟩;refine ⟨_,rfl,?_⟩)|((with_reducible refine gate_callee (f := 26) rfl ?_);refine goesL_ (some 27) rfl rfl Try.func26 (by kernel_rfl) rfl #[.int .i64 t443,.int .i64 t444] rfl az ?_;(with_reducible refine (impl_GoodsteinNext.calls k t443 t444 t447 _ A7.out).mono ?_);rintro e w59 ⟨rfl,hb⟩;refine ⟨_,rfl,?_⟩;have n0_ := Aside0.mk (below_step bz hb);clear HB;have HB := n0_;clear n0_;(try clear hb);(try clear hb2);(try clear hk);(try clear hi))|((with_reducible refine gate_callee (f := 21) rfl ?_);refine goesL_ (some 42) rfl rfl Try.func21 (by kernel_rfl) rfl #[.int .i64 t445,.int .i64 (wrap64 (t444 + 1))] rfl az ?_;(with_reducible refine (impl_PlainOrd.calls k t445 (wrap64 (t444 + 1)) t449 _ A22.out).mono ?_);rintro e w60 ⟨v450,rfl,ho0,hb⟩;refine ⟨_,rfl,?_⟩;have n0_ := Aside0.mk (Kd.R_lower ho0 (below_size bz));have n1_ := Aside0.mk (below_step bz hb);clear HB;have HO451 := n0_;have HB := n1_;clear n0_ n1_;(try clear hb);(try clear hb2);(try clear hk);(try clear hi);(try clear ho0))|((with_reducible refine gate_callee (f := 21) rfl ?_);refine goesL_ (some 45) rfl rfl Try.func21 (by kernel_rfl) rfl #[.int .i64 t443,.int .i64 t444] rfl az ?_;(with_reducible refine (impl_PlainOrd.calls k t443 t444 t452 _ A23.out).mono ?_);rintro e w61 ⟨v453,rfl,ho0,hb⟩;refine ⟨_,rfl,?_⟩;have n0_ := Aside0.mk (Kd.R_elder' (Kd.Rz HO451.out) (Kd.R_base ho0) hb);have n1_ := Aside0.mk (Kd.R_lower (Kd.R_new' ho0 (Kd.R_lt (Kd.Rz HO451.out))) (below_size bz));have n2_ := Aside0.mk (below_step bz hb);clear HO451;clear HB;have HO451 := n0_;have HO454 := n1_;have HB := n2_;clear n0_ n1_ n2_;(try clear hb);(try clear hb2);(try clear hk);(try clear hi);(try clear ho0);obtain ⟨Ao62,co62,eo62⟩ := Kd.R_slice HO451.out;subst eo62;obtain ⟨Ao63,co63,eo63⟩ := Kd.R_slice HO454.out;subst eo63)|(go_at_call 19;(with_reducible refine (impl_OrdCompare.calls k _ _ t449 _ _ t452 t455 _ ?side1 ?side2 ?side3 ?side4 A54.out).mono ?_);(case side1 => exact Kd.Cz (Kd.R_reads' HO451.out).2.2);(case side2 => exact (Kd.R_reads' HO451.out).2.1);(case side3 => exact Kd.Cz (Kd.R_reads' HO454.out).2.2);(case side4 => exact (Kd.R_reads' HO454.out).2.1);rintro e w64 ⟨rfl,hb⟩;have n0_ := Aside0.mk (Kd.R_below (Kd.Rz HO451.out) hb);have n1_ := Aside0.mk (Kd.R_below (Kd.Rz HO454.out) hb);have n2_ := Aside0.mk (below_step bz hb);clear HO451;clear HO454;clear HB;have HO451 := n0_;have HO454 := n1_;have HB := n2_;clear n0_ n1_ n2_;(try clear hb);(try clear hb2);(try clear hk);(try clear hi)))
        go_ret
        exact ⟨by first|rfl|(simp [errW_none,errW_some] <;> rfl)|(simp [*,errW_none,errW_some] <;> rfl),bz⟩
       ·rw [if_neg c56] at H
        have c56b0 : decide (t447 < 0) = false := decide_eq_false c56
        clear c56
        obtain rfl := Option.some.inj H
        go_enter Try.func5,Try.ntmps5
        go_wp2_with (first|((with_reducible refine gate_callee (f := 23) rfl ?_);refine goesL_ (some 14) rfl rfl Try.func23 (by kernel_rfl) rfl #[.slice A0 l0.length c0] rfl az ?_;(with_reducible refine (spec_DrawPlainNext.calls k _ _ l0 t443 t444 _ ?side1 ?side2 A3.out).mono ?_);(case side1 => exact Kd.Cz HR0.out);(case side2 => exact HC0.out);rintro e w65 ⟨rfl,hb⟩;refine ⟨_,rfl,?_⟩;have n0_ := Aside0.mk (below_step bz hb);clear HB;have HB := n0_;clear n0_;(try clear hb);(try clear hb2);(try clear hk);(try clear hi))|((with_reducible refine gate_callee (f := 24) rfl ?_);refine goesL_ (some 19) rfl rfl Try.func24 (by kernel_rfl) rfl #[.int .i64 t443,.int .i64 t444] rfl az ?_;(with_reducible refine (impl_PlainNext.calls k t443 t444 t445 _ A4.out).mono ?_);rintro e w66 ⟨rfl,hb⟩;refine ⟨_,rfl,?_⟩;have n0_ := Aside0.mk (below_step bz hb);clear HB;have HB := n0_;clear n0_;(try clear hb);(try clear hb2);(try clear hk);(try clear hi))|((with_reducible refine gate_callee (f := 25) rfl ?_);refine goesL_ (some 23) rfl rfl Try.func25 (by kernel_rfl) rfl #[.int .i64 t443,.int .i64 t444] rfl az ?_;(with_reducible refine (spec_PlainNext.calls k t443 t444 t446 _ A5.out).mono ?_);rintro e w' ⟨rfl,⟨nd,rfl⟩⟩;refine ⟨_,rfl,?_⟩)|((with_reducible refine gate_callee (f := 26) rfl ?_);refine goesL_ (some 27) rfl rfl Try.func26 (by kernel_rfl) rfl #[.int .i64 t443,.int .i64 t444] rfl az ?_;(with_reducible refine (impl_GoodsteinNext.calls k t443 t444 t447 _ A7.out).mono ?_);rintro e w67 ⟨rfl,hb⟩;refine ⟨_,rfl,?_⟩;have n0_ := Aside0.mk (below_step bz hb);clear HB;have HB := n0_;clear n0_;(try clear hb);(try clear hb2);(try clear hk);(try clear hi))|((with_reducible refine gate_callee (f := 21) rfl ?_);refine goesL_ (some 42) rfl rfl Try.func21 (by kernel_rfl) rfl #[.int .i64 t445,.int .i64 (wrap64 (t444 + 1))] rfl az ?_;(with_reducible refine (impl_PlainOrd.calls k t445 (wrap64 (t444 + 1)) t449 _ A22.out).mono ?_);rintro e w68 ⟨v450,rfl,ho0,hb⟩;refine ⟨_,rfl,?_⟩;have n0_ := Aside0.mk (Kd.R_lower ho0 (below_size bz));have n1_ := Aside0.mk (below_step bz hb);clear HB;have HO451 := n0_;have HB := n1_;clear n0_ n1_;(try clear hb);(try clear hb2);(try clear hk);(try clear hi);(try clear ho0))|((with_reducible refine gate_callee (f := 21) rfl ?_);refine goesL_ (some 45) rfl rfl Try.func21 (by kernel_rfl) rfl #[.int .i64 t443,.int .i64 t444] rfl az ?_;(with_reducible refine (impl_PlainOrd.calls k t443 t444 t452 _ A23.out).mono ?_);rintro e w69 ⟨v453,rfl,ho0,hb⟩;refine ⟨_,rfl,?_⟩;have n0_ := Aside0.mk (Kd.R_elder' (Kd.Rz HO451.out) (Kd.R_base ho0) hb);have n1_ := Aside0.mk (Kd.R_lower (Kd.R_new' ho0 (Kd.R_lt (Kd.Rz HO451.out))) (below_size bz));have n2_ := Aside0.mk (below_step bz hb);clear HO451;clear HB;have HO451 := n0_;have HO454 := n1_;have HB := n2_;clear n0_ n1_ n2_;(try clear hb);(try clear hb2);(try clear hk);(try clear hi);(try clear ho0);obtain ⟨Ao70,co70,eo70⟩ := Kd.R_slice HO451.out;subst eo70;obtain ⟨Ao71,co71,eo71⟩ := Kd.R_slice HO454.out;subst eo71)|(go_at_call 19;(with_reducible refine (impl_OrdCompare.calls k _ _ t449 _ _ t452 t455 _ ?side1 ?side2 ?side3 ?side4 A54.out).mono ?_);(case side1 => exact Kd.Cz (Kd.R_reads' HO451.out).2.2);(case side2 => exact (Kd.R_reads' HO451.out).2.1);(case side3 => exact Kd.Cz (Kd.R_reads' HO454.out).2.2);(case side4 => exact (Kd.R_reads' HO454.out).2.1);rintro e w72 ⟨rfl,hb⟩;have n0_ := Aside0.mk (Kd.R_below (Kd.Rz HO451.out) hb);have n1_ := Aside0.mk (Kd.R_below (Kd.Rz HO454.out) hb);have n2_ := Aside0.mk (below_step bz hb);clear HO451;clear HO454;clear HB;have HO451 := n0_;have HO454 := n1_;have HB := n2_;clear n0_ n1_ n2_;(try clear hb);(try clear hb2);(try clear hk);(try clear hi)))
        go_ret
        exact ⟨by first|rfl|(simp [errW_none,errW_some] <;> rfl)|(simp [*,errW_none,errW_some] <;> rfl),bz⟩
      ·rw [if_neg c55] at H
       have c55b0 : (t455 == (-1)) = false := beq_eq_false_iff_ne.mpr c55
       have c55b1 : (t455 != (-1)) = true := bne_iff_ne.mpr c55
       obtain rfl := Option.some.inj H
       go_enter Try.func5,Try.ntmps5
       go_wp2_with (first|((with_reducible refine gate_callee (f := 23) rfl ?_);refine goesL_ (some 14) rfl rfl Try.func23 (by kernel_rfl) rfl #[.slice A0 l0.length c0] rfl az ?_;(with_reducible refine (spec_DrawPlainNext.calls k _ _ l0 t443 t444 _ ?side1 ?side2 A3.out).mono ?_);(case side1 => exact Kd.Cz HR0.out);(case side2 => exact HC0.out);rintro e w73 ⟨rfl,hb⟩;refine ⟨_,rfl,?_⟩;have n0_ := Aside0.mk (below_step bz hb);clear HB;have HB := n0_;clear n0_;(try clear hb);(try clear hb2);(try clear hk);(try clear hi))|((with_reducible refine gate_callee (f := 24) rfl ?_);refine goesL_ (some 19) rfl rfl Try.func24 (by kernel_rfl) rfl #[.int .i64 t443,.int .i64 t444] rfl az ?_;(with_reducible refine (impl_PlainNext.calls k t443 t444 t445 _ A4.out).mono ?_);rintro e w74 ⟨rfl,hb⟩;refine ⟨_,rfl,?_⟩;have n0_ := Aside0.mk (below_step bz hb);clear HB;have HB := n0_;clear n0_;(try clear hb);(try clear hb2);(try clear hk);(try clear hi))|((with_reducible refine gate_callee (f := 25) rfl ?_);refine goesL_ (some 23) rfl rfl Try.func25 (by kernel_rfl) rfl #[.int .i64 t443,.int .i64 t444] rfl az ?_;(with_reducible refine (spec_PlainNext.calls k t443 t444 t446 _ A5.out).mono ?_);rintro e w' ⟨rfl,⟨nd,rfl⟩⟩;refine ⟨_,rfl,?_⟩)|((with_reducible refine gate_callee (f := 26) rfl ?_);refine goesL_ (some 27) rfl rfl Try.func26 (by kernel_rfl) rfl #[.int .i64 t443,.int .i64 t444] rfl az ?_;(with_reducible refine (impl_GoodsteinNext.calls k t443 t444 t447 _ A7.out).mono ?_);rintro e w75 ⟨rfl,hb⟩;refine ⟨_,rfl,?_⟩;have n0_ := Aside0.mk (below_step bz hb);clear HB;have HB := n0_;clear n0_;(try clear hb);(try clear hb2);(try clear hk);(try clear hi))|((with_reducible refine gate_callee (f := 21) rfl ?_);refine goesL_ (some 42) rfl rfl Try.func21 (by kernel_rfl) rfl #[.int .i64 t445,.int .i64 (wrap64 (t444 + 1))] rfl az ?_;(with_reducible refine (impl_PlainOrd.calls k t445 (wrap64 (t444 + 1)) t449 _ A22.out).mono ?_);rintro e w76 ⟨v450,rfl,ho0,hb⟩;refine ⟨_,rfl,?_⟩;have n0_ := Aside0.mk (Kd.R_lower ho0 (below_size bz));have n1_ := Aside0.mk (below_step bz hb);clear HB;have HO451 := n0_;have HB := n1_;clear n0_ n1_;(try clear hb);(try clear hb2);(try clear hk);(try clear hi);(try clear ho0))|((with_reducible refine gate_callee (f := 21) rfl ?_);refine goesL_ (some 45) rfl rfl Try.func21 (by kernel_rfl) rfl #[.int .i64 t443,.int .i64 t444] rfl az ?_;(with_reducible refine (impl_PlainOrd.calls k t443 t444 t452 _ A23.out).mono ?_);rintro e w77 ⟨v453,rfl,ho0,hb⟩;refine ⟨_,rfl,?_⟩;have n0_ := Aside0.mk (Kd.R_elder' (Kd.Rz HO451.out) (Kd.R_base ho0) hb);have n1_ := Aside0.mk (Kd.R_lower (Kd.R_new' ho0 (Kd.R_lt (Kd.Rz HO451.out))) (below_size bz));have n2_ := Aside0.mk (below_step bz hb);clear HO451;clear HB;have HO451 := n0_;have HO454 := n1_;have HB := n2_;clear n0_ n1_ n2_;(try clear hb);(try clear hb2);(try clear hk);(try clear hi);(try clear ho0);obtain ⟨Ao78,co78,eo78⟩ := Kd.R_slice HO451.out;subst eo78;obtain ⟨Ao79,co79,eo79⟩ := Kd.R_slice HO454.out;subst eo79)|(go_at_call 19;(with_reducible refine (impl_OrdCompare.calls k _ _ t449 _ _ t452 t455 _ ?side1 ?side2 ?side3 ?side4 A54.out).mono ?_);(case side1 => exact Kd.Cz (Kd.R_reads' HO451.out).2.2);(case side2 => exact (Kd.R_reads' HO451.out).2.1);(case side3 => exact Kd.Cz (Kd.R_reads' HO454.out).2.2);(case side4 => exact (Kd.R_reads' HO454.out).2.1);rintro e w80 ⟨rfl,hb⟩;have n0_ := Aside0.mk (Kd.R_below (Kd.Rz HO451.out) hb);have n1_ := Aside0.mk (Kd.R_below (Kd.Rz HO454.out) hb);have n2_ := Aside0.mk (below_step bz hb);clear HO451;clear HO454;clear HB;have HO451 := n0_;have HO454 := n1_;have HB := n2_;clear n0_ n1_ n2_;(try clear hb);(try clear hb2);(try clear hk);(try clear hi)))
       go_ret
       exact ⟨by first|rfl|(simp [errW_none,errW_some] <;> rfl)|(simp [*,errW_none,errW_some] <;> rfl),bz⟩
  ·rw [if_neg c6] at H
   have c6b0 : (t445 == t446) = false := beq_eq_false_iff_ne.mpr c6
   have c6b1 : (t445 != t446) = true := bne_iff_ne.mpr c6
   obtain rfl := Option.some.inj H
   go_enter Try.func5,Try.ntmps5
   go_wp2_with (first|((with_reducible refine gate_callee (f := 23) rfl ?_);refine goesL_ (some 14) rfl rfl Try.func23 (by kernel_rfl) rfl #[.slice A0 l0.length c0] rfl az ?_;(with_reducible refine (spec_DrawPlainNext.calls k _ _ l0 t443 t444 _ ?side1 ?side2 A3.out).mono ?_);(case side1 => exact Kd.Cz HR0.out);(case side2 => exact HC0.out);rintro e w81 ⟨rfl,hb⟩;refine ⟨_,rfl,?_⟩;have n0_ := Aside0.mk (below_step bz hb);clear HB;have HB := n0_;clear n0_;(try clear hb);(try clear hb2);(try clear hk);(try clear hi))|((with_reducible refine gate_callee (f := 24) rfl ?_);refine goesL_ (some 19) rfl rfl Try.func24 (by kernel_rfl) rfl #[.int .i64 t443,.int .i64 t444] rfl az ?_;(with_reducible refine (impl_PlainNext.calls k t443 t444 t445 _ A4.out).mono ?_);rintro e w82 ⟨rfl,hb⟩;refine ⟨_,rfl,?_⟩;have n0_ := Aside0.mk (below_step bz hb);clear HB;have HB := n0_;clear n0_;(try clear hb);(try clear hb2);(try clear hk);(try clear hi))|((with_reducible refine gate_callee (f := 25) rfl ?_);refine goesL_ (some 23) rfl rfl Try.func25 (by kernel_rfl) rfl #[.int .i64 t443,.int .i64 t444] rfl az ?_;(with_reducible refine (spec_PlainNext.calls k t443 t444 t446 _ A5.out).mono ?_);rintro e w' ⟨rfl,⟨nd,rfl⟩⟩;refine ⟨_,rfl,?_⟩))
   go_ret
   exact ⟨by first|rfl|(simp [errW_none,errW_some] <;> rfl)|(simp [*,errW_none,errW_some] <;> rfl),bz⟩

/-- THE ONE PURE STATEMENT of laws_FnPlainNext: yours. -/
def laws_FnPlainNext.Pure : Prop := ∀ (l0 : List Int),l0.length ≤ maxLen → l0.length * 1 ≤ 140737488351232 → (∀ x ∈ l0,(Lit.int .u8 x).wf = true) → ∃ k,laws_FnPlainNext.f k l0 = some true
theorem laws_FnPlainNext.walk (P : laws_FnPlainNext.Pure) (a0 : Option Addr) (len0 cap0 : Nat) (z0 : List Int) (w : World) (w0 : (a0 = none ∧ len0 = 0 ∧ cap0 = 0 ∧ z0 = []) ∨ ∃ x,a0 = some x ∧ len0 ≤ cap0 ∧ cap0 ≤ maxLen ∧ z0.length = cap0 ∧ (∀ i,i < z0.length → w.cell? (x.add i) = some (.int .u8 (z0.getD i 0))) ∧ ∀ n ∈ z0,(Lit.int .u8 n).wf = true) (y0 : len0 * 1 ≤ 140737488351232) :
  Calls Try.prog 5 #[.slice a0 len0 cap0] w fun e w' => e = .returned (.bool true) ∧ Below w.heap.size w w' := by
 obtain ⟨l0,rfl,hr0,hm0,hw0,hc0⟩ := ReadsInt.ofRowC w0
 obtain ⟨k,h⟩ := P l0 hm0 y0 hw0
 refine (laws_FnPlainNext.calls k _ _ l0 true w (Kd.C_of_reads (d := (0 : Int)) (h1 := fun _ => rfl) hr0) hc0 h).mono ?_
 rintro e w' ⟨rfl,hd⟩
 exact ⟨rfl,hd⟩

end Go.Proofs.Ytpgkpahhohfmhaa.P
