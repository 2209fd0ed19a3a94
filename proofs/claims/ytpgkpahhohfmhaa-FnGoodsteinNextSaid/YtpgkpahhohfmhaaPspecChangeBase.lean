/- The walk of one Go function that the law reaches: it comes to what the Lean function of its name tells. -/
import Derived.Test.YtpgkpahhohfmhaaP0
import Derived.Test.YtpgkpahhohfmhaaPspecOrdInBase
import Derived.Test.YtpgkpahhohfmhaaPspecl1In
import Derived.Test.YtpgkpahhohfmhaaPspecl3Value
namespace Go.Proofs.Ytpgkpahhohfmhaa.P
open Go.RowKit Go.Proofs.YtpgkpahhohfmhaaW.PrintWords Go.Proofs.YtpgkpahhohfmhaaW.PrintLast Go.Proofs.YtpgkpahhohfmhaaW.PrintMore
attribute [local go_sem] max2_int min2_int max_two min_two max_three min_three max_four min_four   
set_option linter.unusedVariables false
set_option linter.unusedSimpArgs false

/-! ### spec_ChangeBase: function 29 -/
def spec_ChangeBase.f (k : Nat) (a0 : Int) (a1 : Int) (a2 : Int) : Option (Int) := (spec_OrdInBase.f k a0 a1).bind fun t496 => (if (t496.length : Int) = 0 then (some (-1)) else ((spec_l1In.f a2 2 90).bind fun t499 => (if t499 = true then ((spec_l3Value.f k t496 a2).bind fun t500 => (some t500)) else (some (-1)))))
theorem spec_ChangeBase.mono : ∀ a0 a1 a2 k,LeO (spec_ChangeBase.f k a0 a1 a2) (spec_ChangeBase.f (k + 1) a0 a1 a2) := by
 intro a0 a1 a2 k
 unfold spec_ChangeBase.f
 repeat' first|(with_reducible first|exact spec_OrdInBase.mono _ _ _|exact spec_l3Value.mono _ _ _|exact LeO.refl _|exact LeO.none _|refine LeO.ite ?_ ?_|refine LeO.bind ?_ (fun _ => ?_))|exact spec_OrdInBase.mono _ _ _|exact spec_l3Value.mono _ _ _|exact LeO.none _|refine LeO.ite ?_ ?_|refine LeO.bind ?_ (fun _ => ?_)
set_option maxHeartbeats 8000000 in
set_option maxRecDepth 100000 in
theorem spec_ChangeBase.calls (k : Nat) (a0 : Int) (a1 : Int) (a2 : Int) (r : Int) (w : World) (h : spec_ChangeBase.f k a0 a1 a2 = some r) :
  Calls Try.prog 29 #[.int .i64 a0,.int .i64 a1,.int .i64 a2] w fun e w' => e = .returned (.int .i64 r) ∧ Below w.heap.size w w' := by
 have HB := Aside0.mk (Below.refl w.heap.size w)
 have H : ((spec_OrdInBase.f k a0 a1).bind fun t496 => (if (t496.length : Int) = 0 then (some (-1)) else ((spec_l1In.f a2 2 90).bind fun t499 => (if t499 = true then ((spec_l3Value.f k t496 a2).bind fun t500 => (some t500)) else (some (-1)))))) = some r := h
 clear h
 replace H := Option.bind_eq_some_iff.mp H
 obtain ⟨t496,A40,H⟩ := H
 replace H : (if (t496.length : Int) = 0 then (some (-1)) else ((spec_l1In.f a2 2 90).bind fun t499 => (if t499 = true then ((spec_l3Value.f k t496 a2).bind fun t500 => (some t500)) else (some (-1))))) = some r := H
 have A4 := Aside0.mk A40
 clear A40
 by_cases c5 : (t496.length : Int) = 0
 ·rw [if_pos c5] at H
  have c5b0 : ((t496.length : Int) == 0) = true := beq_iff_eq.mpr c5
  have c5b1 : ((t496.length : Int) != 0) = false := bne_eq_false_iff_eq.mpr c5
  clear c5
  obtain rfl := Option.some.inj H
  go_enter Try.func29,Try.ntmps29
  go_wp2_with (first|((with_reducible refine gate_callee (f := 14) rfl ?_);refine goesL_ (some 10) rfl rfl Try.func14 (by kernel_rfl) rfl #[.int .i64 a0,.int .i64 a1] rfl az ?_;(with_reducible refine (spec_OrdInBase.calls k a0 a1 t496 _ A4.out).mono ?_);rintro e w6 ⟨v497,rfl,ho0,hb⟩;refine ⟨_,rfl,?_⟩;have n0_ := Aside0.mk (Kd.R_lower ho0 (below_size bz));have n1_ := Aside0.mk (below_step bz hb);clear HB;have HO498 := n0_;have HB := n1_;clear n0_ n1_;(try clear hb);(try clear hb2);(try clear hk);(try clear hi);(try clear ho0);obtain ⟨Ao7,co7,eo7⟩ := Kd.R_slice HO498.out;subst eo7))
  go_ret
  exact ⟨by first|rfl|(simp [errW_none,errW_some] <;> rfl)|(simp [*,errW_none,errW_some] <;> rfl),bz⟩
 ·rw [if_neg c5] at H
  have c5b0 : ((t496.length : Int) == 0) = false := beq_eq_false_iff_ne.mpr c5
  have c5b1 : ((t496.length : Int) != 0) = true := bne_iff_ne.mpr c5
  have c5b2 : ¬ (t496 = []) := fun h_ => c5 (by rw [h_];rfl)
  replace H := Option.bind_eq_some_iff.mp H
  obtain ⟨t499,A80,H⟩ := H
  replace H : (if t499 = true then ((spec_l3Value.f k t496 a2).bind fun t500 => (some t500)) else (some (-1))) = some r := H
  have A8 := Aside0.mk A80
  clear A80
  by_cases c9 : t499 = true
  ·subst c9
   have H1 : ((spec_l3Value.f k t496 a2).bind fun t500 => (some t500)) = some r := by rw [if_pos rfl] at H;exact H
   clear H
   have H := H1
   clear H1
   replace H := Option.bind_eq_some_iff.mp H
   obtain ⟨t500,A100,H⟩ := H
   replace H : (some t500) = some r := H
   have A10 := Aside0.mk A100
   clear A100
   obtain rfl := Option.some.inj H
   go_enter Try.func29,Try.ntmps29
   go_wp2_with (first|((with_reducible refine gate_callee (f := 14) rfl ?_);refine goesL_ (some 10) rfl rfl Try.func14 (by kernel_rfl) rfl #[.int .i64 a0,.int .i64 a1] rfl az ?_;(with_reducible refine (spec_OrdInBase.calls k a0 a1 t496 _ A4.out).mono ?_);rintro e w11 ⟨v497,rfl,ho0,hb⟩;refine ⟨_,rfl,?_⟩;have n0_ := Aside0.mk (Kd.R_lower ho0 (below_size bz));have n1_ := Aside0.mk (below_step bz hb);clear HB;have HO498 := n0_;have HB := n1_;clear n0_ n1_;(try clear hb);(try clear hb2);(try clear hk);(try clear hi);(try clear ho0);obtain ⟨Ao12,co12,eo12⟩ := Kd.R_slice HO498.out;subst eo12)|(go_at_call 51;(with_reducible refine (spec_l1In.calls a2 2 90 true _ A8.out).mono ?_);rintro e w' ⟨rfl,⟨nd,rfl⟩⟩)|((with_reducible refine gate_callee (f := 62) rfl ?_);refine goesL_ (some 21) rfl rfl Try.func62 (by kernel_rfl) rfl #[.slice Ao12 t496.length co12,.int .i64 a2] rfl az ?_;(with_reducible refine (spec_l3Value.calls k _ _ t496 a2 t500 _ ?side1 ?side2 A10.out).mono ?_);(case side1 => exact Kd.Cz (Kd.R_reads' HO498.out).2.2);(case side2 => exact (Kd.R_reads' HO498.out).2.1);rintro e w13 ⟨rfl,hb⟩;refine ⟨_,rfl,?_⟩;have n0_ := Aside0.mk (Kd.R_below (Kd.Rz HO498.out) hb);have n1_ := Aside0.mk (below_step bz hb);clear HO498;clear HB;have HO498 := n0_;have HB := n1_;clear n0_ n1_;(try clear hb);(try clear hb2);(try clear hk);(try clear hi)))
   go_ret
   exact ⟨by first|rfl|(simp [errW_none,errW_some] <;> rfl)|(simp [*,errW_none,errW_some] <;> rfl),bz⟩
  ·replace c9 := Bool.eq_false_iff.mpr c9
   subst c9
   have H1 : (some (-1)) = some r := by rw [if_neg (show ¬ (false = true) by decide)] at H;exact H
   clear H
   have H := H1
   clear H1
   obtain rfl := Option.some.inj H
   go_enter Try.func29,Try.ntmps29
   go_wp2_with (first|((with_reducible refine gate_callee (f := 14) rfl ?_);refine goesL_ (some 10) rfl rfl Try.func14 (by kernel_rfl) rfl #[.int .i64 a0,.int .i64 a1] rfl az ?_;(with_reducible refine (spec_OrdInBase.calls k a0 a1 t496 _ A4.out).mono ?_);rintro e w14 ⟨v497,rfl,ho0,hb⟩;refine ⟨_,rfl,?_⟩;have n0_ := Aside0.mk (Kd.R_lower ho0 (below_size bz));have n1_ := Aside0.mk (below_step bz hb);clear HB;have HO498 := n0_;have HB := n1_;clear n0_ n1_;(try clear hb);(try clear hb2);(try clear hk);(try clear hi);(try clear ho0);obtain ⟨Ao15,co15,eo15⟩ := Kd.R_slice HO498.out;subst eo15)|(go_at_call 51;(with_reducible refine (spec_l1In.calls a2 2 90 false _ A8.out).mono ?_);rintro e w' ⟨rfl,⟨nd,rfl⟩⟩))
   go_ret
   exact ⟨by first|rfl|(simp [errW_none,errW_some] <;> rfl)|(simp [*,errW_none,errW_some] <;> rfl),bz⟩

end Go.Proofs.Ytpgkpahhohfmhaa.P
