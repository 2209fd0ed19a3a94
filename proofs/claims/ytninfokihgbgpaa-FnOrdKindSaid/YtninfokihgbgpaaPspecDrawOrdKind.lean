/- The walk of one Go function that the law reaches: it comes to what the Lean function of its name tells. -/
import Derived.Test.YtninfokihgbgpaaP0
import Derived.Test.YtninfokihgbgpaaPspecl20Open
import Derived.Test.YtninfokihgbgpaaPspecl20Ord
namespace Go.Proofs.Ytninfokihgbgpaa.P
open Go.RowKit Go.Proofs.YtninfokihgbgpaaW.PrintWords Go.Proofs.YtninfokihgbgpaaW.PrintLast Go.Proofs.YtninfokihgbgpaaW.PrintMore
attribute [local go_sem] max2_int min2_int max_two min_two max_three min_three max_four min_four   
set_option linter.unusedVariables false
set_option linter.unusedSimpArgs false

/-! ### spec_DrawOrdKind: function 44 -/
def spec_DrawOrdKind.f (k : Nat) (l0 : List Int) : Option (List Int) := (spec_l20Open.f l0).bind fun bt955 => ((spec_l20Ord.f k bt955.1 bt955.2 9).bind fun bt958 => (some bt958.1))
theorem spec_DrawOrdKind.mono : ∀ a0 k,LeO (spec_DrawOrdKind.f k a0) (spec_DrawOrdKind.f (k + 1) a0) := by
 intro a0 k
 unfold spec_DrawOrdKind.f
 repeat' first|(with_reducible first|exact spec_l20Ord.mono _ _ _ _|exact LeO.refl _|exact LeO.none _|refine LeO.ite ?_ ?_|refine LeO.bind ?_ (fun _ => ?_))|exact spec_l20Ord.mono _ _ _ _|exact LeO.none _|refine LeO.ite ?_ ?_|refine LeO.bind ?_ (fun _ => ?_)
set_option maxHeartbeats 8000000 in
set_option maxRecDepth 100000 in
theorem spec_DrawOrdKind.calls (k : Nat) (A0 : Option Addr) (c0 : Nat) (l0 : List Int) (r : List Int) (w : World) (hr0 : Kd.C (Kd.int .u8) w A0 l0.length l0) (hc0 : l0.length ≤ c0) (h : spec_DrawOrdKind.f k l0 = some r) :
  Calls Try.prog 44 #[.slice A0 l0.length c0] w fun e w' => ∃ v0_ : Value,e = .returned (v0_) ∧ Kd.R (Kd.int .i64) 3 w' w.heap.size (fun _ => True) v0_ r ∧ Below w.heap.size w w' := by
 have HR0 := Aside0.mk hr0
 have HC0 := Aside0.mk hc0
 clear hr0 hc0
 have HB := Aside0.mk (Below.refl w.heap.size w)
 have H : ((spec_l20Open.f l0).bind fun bt955 => ((spec_l20Ord.f k bt955.1 bt955.2 9).bind fun bt958 => (some bt958.1))) = some r := h
 clear h
 replace H := Option.bind_eq_some_iff.mp H
 obtain ⟨⟨t955,t956⟩,A20,H⟩ := H
 replace H : ((spec_l20Ord.f k t955 t956 9).bind fun bt958 => (some bt958.1)) = some r := H
 have A2 := Aside0.mk A20
 clear A20
 replace H := Option.bind_eq_some_iff.mp H
 obtain ⟨⟨t958,t961⟩,A30,H⟩ := H
 replace H : (some t958) = some r := H
 have A3 := Aside0.mk A30
 clear A30
 obtain rfl := Option.some.inj H
 go_enter Try.func44,Try.ntmps44
 go_wp2_with (first|((with_reducible refine gate_callee (f := 55) rfl ?_);refine goesL_ (some 4) rfl rfl Try.func55 (by kernel_rfl) rfl #[.slice A0 l0.length c0] rfl az ?_;(with_reducible refine (spec_l20Open.calls _ _ l0 t955 t956 w _ ?side1 ?side2 ?side3 A2.out).mono ?_);(case side1 => repeat (first|(with_reducible first|exact HB.out|apply below_alloc|apply pw_below_drewN|apply below_drew1)|exact HB.out));(case side2 => exact HR0.out);(case side3 => exact HC0.out);rintro e w4 ⟨g957,rfl,hi,hb,hb2⟩;refine ⟨_,rfl,?_⟩;have n0_ := Aside0.mk (hb);have n1_ := Aside0.mk (hi);clear HB;have HB := n0_;have HI957 := n1_;clear n0_ n1_;(try clear hb);(try clear hb2);(try clear hk);(try clear hi))|((with_reducible refine gate_callee (f := 63) rfl ?_);refine goesL_ (some 5) rfl rfl Try.func63 (by kernel_rfl) rfl #[.pointer (some ⟨g957,0,none⟩),.int .i64 9] rfl az ?_;(with_reducible refine (spec_l20Ord.calls k g957 t955 t956 9 t958 t961 w _ ?side1 ?side2 A3.out).mono ?_);(case side1 => repeat (first|(with_reducible first|exact HI957.out|apply IsS73.alloc|apply IsS73.drewN|apply IsS73.drew|apply IsS73.set_1)|exact HI957.out));(case side2 => repeat (first|(with_reducible first|exact HB.out|apply below_alloc|apply pw_below_drewN|apply below_drew1|refine below_set ?_ (IsS73.ge HI957.out))|exact HB.out));rintro e w5 ⟨v959,rfl,ho0,hi,hb,hk⟩;refine ⟨_,rfl,?_⟩;have n0_ := Aside0.mk (Kd.R_lower ho0 (below_size (by repeat (first|(with_reducible first|exact HB.out|apply below_alloc|apply pw_below_drewN|apply below_drew1|refine below_set ?_ (IsS73.ge HI957.out))|exact HB.out))));have n1_ := Aside0.mk (hb);have n2_ := Aside0.mk (hi);clear HB;clear HI957;have HO960 := n0_;have HB := n1_;have HI957 := n2_;clear n0_ n1_ n2_;(try clear hb);(try clear hb2);(try clear hk);(try clear hi);(try clear ho0)))
 go_ret
 exact ⟨_,by first|rfl|(simp [errW_none,errW_some] <;> rfl)|(simp [*,errW_none,errW_some] <;> rfl),by (with_reducible repeat (first|apply Kd.R_alloc|apply Kd.R_drewN|apply Kd.R_drew));exact HO960.out,by repeat (first|(with_reducible first|exact HB.out|apply below_alloc|apply pw_below_drewN|apply below_drew1|refine below_set ?_ (IsS73.ge HI957.out))|exact HB.out)⟩

end Go.Proofs.Ytninfokihgbgpaa.P
