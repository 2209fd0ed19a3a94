/- The walk of one Go function that the law reaches: it comes to what the Lean function of its name tells. -/
import Derived.Test.YtpgkpahhohfmhaaP0
import Derived.Test.YtpgkpahhohfmhaaPspecChangeBase
import Derived.Test.YtpgkpahhohfmhaaPspecl1In
namespace Go.Proofs.Ytpgkpahhohfmhaa.P
open Go.RowKit Go.Proofs.YtpgkpahhohfmhaaW.PrintWords Go.Proofs.YtpgkpahhohfmhaaW.PrintLast Go.Proofs.YtpgkpahhohfmhaaW.PrintMore
attribute [local go_sem] max2_int min2_int max_two min_two max_three min_three max_four min_four   
set_option linter.unusedVariables false
set_option linter.unusedSimpArgs false

/-! ### spec_GoodsteinNext: function 31 -/
def spec_GoodsteinNext.f (k : Nat) (a0 : Int) (a1 : Int) : Option (Int) := if a0 < 1 then (some (-1)) else ((spec_l1In.f a1 2 89).bind fun t524 => (if t524 = true then ((spec_ChangeBase.f k a0 a1 (wrap64 (a1 + 1))).bind fun t525 => (if t525 < 0 then (some (-1)) else ((spec_ChangeBase.f k a0 a1 (wrap64 (a1 + 1))).bind fun t526 => (some (wrap64 (t526 - 1)))))) else (some (-1))))
theorem spec_GoodsteinNext.mono : ∀ a0 a1 k,LeO (spec_GoodsteinNext.f k a0 a1) (spec_GoodsteinNext.f (k + 1) a0 a1) := by
 intro a0 a1 k
 unfold spec_GoodsteinNext.f
 repeat' first|(with_reducible first|exact spec_ChangeBase.mono _ _ _ _|exact LeO.refl _|exact LeO.none _|refine LeO.ite ?_ ?_|refine LeO.bind ?_ (fun _ => ?_))|exact spec_ChangeBase.mono _ _ _ _|exact LeO.none _|refine LeO.ite ?_ ?_|refine LeO.bind ?_ (fun _ => ?_)
set_option maxHeartbeats 8000000 in
set_option maxRecDepth 100000 in
theorem spec_GoodsteinNext.calls (k : Nat) (a0 : Int) (a1 : Int) (r : Int) (w : World) (h : spec_GoodsteinNext.f k a0 a1 = some r) :
  Calls Try.prog 31 #[.int .i64 a0,.int .i64 a1] w fun e w' => e = .returned (.int .i64 r) ∧ Below w.heap.size w w' := by
 have HB := Aside0.mk (Below.refl w.heap.size w)
 have H : (if a0 < 1 then (some (-1)) else ((spec_l1In.f a1 2 89).bind fun t524 => (if t524 = true then ((spec_ChangeBase.f k a0 a1 (wrap64 (a1 + 1))).bind fun t525 => (if t525 < 0 then (some (-1)) else ((spec_ChangeBase.f k a0 a1 (wrap64 (a1 + 1))).bind fun t526 => (some (wrap64 (t526 - 1)))))) else (some (-1))))) = some r := h
 clear h
 by_cases c3 : a0 < 1
 ·rw [if_pos c3] at H
  have c3b0 : decide (a0 < 1) = true := decide_eq_true c3
  clear c3
  obtain rfl := Option.some.inj H
  go_enter Try.func31,Try.ntmps31
  go_wp2
  go_ret
  exact ⟨by first|rfl|(simp [errW_none,errW_some] <;> rfl)|(simp [*,errW_none,errW_some] <;> rfl),bz⟩
 ·rw [if_neg c3] at H
  have c3b0 : decide (a0 < 1) = false := decide_eq_false c3
  clear c3
  replace H := Option.bind_eq_some_iff.mp H
  obtain ⟨t524,A40,H⟩ := H
  replace H : (if t524 = true then ((spec_ChangeBase.f k a0 a1 (wrap64 (a1 + 1))).bind fun t525 => (if t525 < 0 then (some (-1)) else ((spec_ChangeBase.f k a0 a1 (wrap64 (a1 + 1))).bind fun t526 => (some (wrap64 (t526 - 1)))))) else (some (-1))) = some r := H
  have A4 := Aside0.mk A40
  clear A40
  by_cases c5 : t524 = true
  ·subst c5
   have H1 : ((spec_ChangeBase.f k a0 a1 (wrap64 (a1 + 1))).bind fun t525 => (if t525 < 0 then (some (-1)) else ((spec_ChangeBase.f k a0 a1 (wrap64 (a1 + 1))).bind fun t526 => (some (wrap64 (t526 - 1)))))) = some r := by rw [if_pos rfl] at H;exact H
   clear H
   have H := H1
   clear H1
   replace H := Option.bind_eq_some_iff.mp H
   obtain ⟨t525,A60,H⟩ := H
   replace H : (if t525 < 0 then (some (-1)) else ((spec_ChangeBase.f k a0 a1 (wrap64 (a1 + 1))).bind fun t526 => (some (wrap64 (t526 - 1))))) = some r := H
   have A6 := Aside0.mk A60
   clear A60
   by_cases c7 : t525 < 0
   ·rw [if_pos c7] at H
    have c7b0 : decide (t525 < 0) = true := decide_eq_true c7
    clear c7
    obtain rfl := Option.some.inj H
    go_enter Try.func31,Try.ntmps31
    go_wp2_with (first|(go_at_call 51;(with_reducible refine (spec_l1In.calls a1 2 89 true _ A4.out).mono ?_);rintro e w' ⟨rfl,⟨nd,rfl⟩⟩)|(go_at_call 29;(with_reducible refine (spec_ChangeBase.calls k a0 a1 (wrap64 (a1 + 1)) t525 _ A6.out).mono ?_);rintro e w8 ⟨rfl,hb⟩;have n0_ := Aside0.mk (below_step bz hb);clear HB;have HB := n0_;clear n0_;(try clear hb);(try clear hb2);(try clear hk);(try clear hi)))
    go_ret
    exact ⟨by first|rfl|(simp [errW_none,errW_some] <;> rfl)|(simp [*,errW_none,errW_some] <;> rfl),bz⟩
   ·rw [if_neg c7] at H
    have c7b0 : decide (t525 < 0) = false := decide_eq_false c7
    clear c7
    replace H := Option.bind_eq_some_iff.mp H
    obtain ⟨t526,A90,H⟩ := H
    replace H : (some (wrap64 (t526 - 1))) = some r := H
    have A9 := Aside0.mk A90
    clear A90
    obtain rfl := Option.some.inj H
    go_enter Try.func31,Try.ntmps31
    go_wp2_with (first|(go_at_call 51;(with_reducible refine (spec_l1In.calls a1 2 89 true _ A4.out).mono ?_);rintro e w' ⟨rfl,⟨nd,rfl⟩⟩)|(go_at_call 29;(with_reducible refine (spec_ChangeBase.calls k a0 a1 (wrap64 (a1 + 1)) t525 _ A6.out).mono ?_);rintro e w10 ⟨rfl,hb⟩;have n0_ := Aside0.mk (below_step bz hb);clear HB;have HB := n0_;clear n0_;(try clear hb);(try clear hb2);(try clear hk);(try clear hi))|((with_reducible refine gate_callee (f := 29) rfl ?_);refine goesL_ (some 24) rfl rfl Try.func29 (by kernel_rfl) rfl #[.int .i64 a0,.int .i64 a1,.int .i64 (wrap64 (a1 + 1))] rfl az ?_;(with_reducible refine (spec_ChangeBase.calls k a0 a1 (wrap64 (a1 + 1)) t526 _ A9.out).mono ?_);rintro e w11 ⟨rfl,hb⟩;refine ⟨_,rfl,?_⟩;have n0_ := Aside0.mk (below_step bz hb);clear HB;have HB := n0_;clear n0_;(try clear hb);(try clear hb2);(try clear hk);(try clear hi)))
    go_ret
    exact ⟨by first|rfl|(simp [errW_none,errW_some] <;> rfl)|(simp [*,errW_none,errW_some] <;> rfl),bz⟩
  ·replace c5 := Bool.eq_false_iff.mpr c5
   subst c5
   have H1 : (some (-1)) = some r := by rw [if_neg (show ¬ (false = true) by decide)] at H;exact H
   clear H
   have H := H1
   clear H1
   obtain rfl := Option.some.inj H
   go_enter Try.func31,Try.ntmps31
   go_wp2_with (first|(go_at_call 51;(with_reducible refine (spec_l1In.calls a1 2 89 false _ A4.out).mono ?_);rintro e w' ⟨rfl,⟨nd,rfl⟩⟩))
   go_ret
   exact ⟨by first|rfl|(simp [errW_none,errW_some] <;> rfl)|(simp [*,errW_none,errW_some] <;> rfl),bz⟩

end Go.Proofs.Ytpgkpahhohfmhaa.P
