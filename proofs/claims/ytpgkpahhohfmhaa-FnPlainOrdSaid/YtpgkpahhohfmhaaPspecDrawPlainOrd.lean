/- The walk of one Go function that the law reaches: it comes to what the Lean function of its name tells. -/
import Derived.Test.YtpgkpahhohfmhaaP0
import Derived.Test.YtpgkpahhohfmhaaPspecDrawOrdInBase
namespace Go.Proofs.Ytpgkpahhohfmhaa.P
open Go.RowKit Go.Proofs.YtpgkpahhohfmhaaW.PrintWords Go.Proofs.YtpgkpahhohfmhaaW.PrintLast Go.Proofs.YtpgkpahhohfmhaaW.PrintMore
attribute [local go_sem] max2_int min2_int max_two min_two max_three min_three max_four min_four   
set_option linter.unusedVariables false
set_option linter.unusedSimpArgs false

/-! ### spec_DrawPlainOrd: function 20 -/
def spec_DrawPlainOrd.f (k : Nat) (l0 : List Int) : Option (Int × Int) := (spec_DrawOrdInBase.f k l0).bind fun bt354 => (some (bt354.1,bt354.2))
theorem spec_DrawPlainOrd.mono : ∀ a0 k,LeO (spec_DrawPlainOrd.f k a0) (spec_DrawPlainOrd.f (k + 1) a0) := by
 intro a0 k
 unfold spec_DrawPlainOrd.f
 repeat' first|(with_reducible first|exact spec_DrawOrdInBase.mono _ _|exact LeO.refl _|exact LeO.none _|refine LeO.ite ?_ ?_|refine LeO.bind ?_ (fun _ => ?_))|exact spec_DrawOrdInBase.mono _ _|exact LeO.none _|refine LeO.ite ?_ ?_|refine LeO.bind ?_ (fun _ => ?_)
set_option maxHeartbeats 8000000 in
set_option maxRecDepth 100000 in
theorem spec_DrawPlainOrd.calls (k : Nat) (A0 : Option Addr) (c0 : Nat) (l0 : List Int) (r1 : Int) (r2 : Int) (w : World) (hr0 : Kd.C (Kd.int .u8) w A0 l0.length l0) (hc0 : l0.length ≤ c0) (h : spec_DrawPlainOrd.f k l0 = some (r1,r2)) :
  Calls Try.prog 20 #[.slice A0 l0.length c0] w fun e w' => e = .returned (.tuple #[.int .i64 r1,.int .i64 r2]) ∧ Below w.heap.size w w' := by
 have HR0 := Aside0.mk hr0
 have HC0 := Aside0.mk hc0
 clear hr0 hc0
 have HB := Aside0.mk (Below.refl w.heap.size w)
 have H : ((spec_DrawOrdInBase.f k l0).bind fun bt354 => (some (bt354.1,bt354.2))) = some (r1,r2) := h
 clear h
 replace H := Option.bind_eq_some_iff.mp H
 obtain ⟨⟨t354,t355⟩,A20,H⟩ := H
 replace H : (some (t354,t355)) = some (r1,r2) := H
 have A2 := Aside0.mk A20
 clear A20
 simp only [Option.some.injEq,Prod.mk.injEq] at H
 obtain ⟨rfl,rfl⟩ := H
 go_enter Try.func20,Try.ntmps20
 go_wp2_with (first|((with_reducible refine gate_callee (f := 11) rfl ?_);refine goesL_ (some 5) rfl rfl Try.func11 (by kernel_rfl) rfl #[.slice A0 l0.length c0] rfl az ?_;(with_reducible refine (spec_DrawOrdInBase.calls k _ _ l0 t354 t355 _ ?side1 ?side2 A2.out).mono ?_);(case side1 => exact Kd.Cz HR0.out);(case side2 => exact HC0.out);rintro e w3 ⟨rfl,hb⟩;refine ⟨_,rfl,?_⟩;have n0_ := Aside0.mk (below_step bz hb);clear HB;have HB := n0_;clear n0_;(try clear hb);(try clear hb2);(try clear hk);(try clear hi)))
 go_ret2
 exact ⟨by first|rfl|(simp [errW_none,errW_some] <;> rfl)|(simp [*,errW_none,errW_some] <;> rfl),bz⟩

end Go.Proofs.Ytpgkpahhohfmhaa.P
