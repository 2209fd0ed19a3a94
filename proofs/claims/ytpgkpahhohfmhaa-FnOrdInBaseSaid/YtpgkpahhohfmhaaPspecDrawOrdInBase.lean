/- The walk of one Go function that the law reaches: it comes to what the Lean function of its name tells. -/
import Derived.Test.YtpgkpahhohfmhaaP0
import Derived.Test.YtpgkpahhohfmhaaPspecl20Count
import Derived.Test.YtpgkpahhohfmhaaPspecl20Open
import Derived.Test.YtpgkpahhohfmhaaPspecl20Rdpick
import Derived.Test.YtpgkpahhohfmhaaPspecl20Root
namespace Go.Proofs.Ytpgkpahhohfmhaa.P
open Go.RowKit Go.Proofs.YtpgkpahhohfmhaaW.PrintWords Go.Proofs.YtpgkpahhohfmhaaW.PrintLast Go.Proofs.YtpgkpahhohfmhaaW.PrintMore
attribute [local go_sem] max2_int min2_int max_two min_two max_three min_three max_four min_four   
set_option linter.unusedVariables false
set_option linter.unusedSimpArgs false

/-! ### spec_DrawOrdInBase: function 11 -/
def spec_DrawOrdInBase.f (k : Nat) (l0 : List Int) : Option (Int × Int) := (spec_l20Open.f l0).bind fun bt133 => ((spec_l20Count.f k bt133.1 bt133.2).bind fun bt136 => ((spec_l20Rd_pick.f k bt133.1 bt136.2 30).bind fun bt138 => ((spec_l20Root.f k bt133.1 bt138.2).bind fun bt140 => (some (wrap64 (bt136.1 - (wrap64 ((wrap64 (Int.tdiv bt138.1 29)) * 99))),bt140.1)))))
theorem spec_DrawOrdInBase.mono : ∀ a0 k,LeO (spec_DrawOrdInBase.f k a0) (spec_DrawOrdInBase.f (k + 1) a0) := by
 intro a0 k
 unfold spec_DrawOrdInBase.f
 repeat' first|(with_reducible first|exact spec_l20Count.mono _ _ _|exact spec_l20Rd_pick.mono _ _ _ _|exact spec_l20Root.mono _ _ _|exact LeO.refl _|exact LeO.none _|refine LeO.ite ?_ ?_|refine LeO.bind ?_ (fun _ => ?_))|exact spec_l20Count.mono _ _ _|exact spec_l20Rd_pick.mono _ _ _ _|exact spec_l20Root.mono _ _ _|exact LeO.none _|refine LeO.ite ?_ ?_|refine LeO.bind ?_ (fun _ => ?_)
set_option maxHeartbeats 8000000 in
set_option maxRecDepth 100000 in
theorem spec_DrawOrdInBase.calls (k : Nat) (A0 : Option Addr) (c0 : Nat) (l0 : List Int) (r1 : Int) (r2 : Int) (w : World) (hr0 : Kd.C (Kd.int .u8) w A0 l0.length l0) (hc0 : l0.length ≤ c0) (h : spec_DrawOrdInBase.f k l0 = some (r1,r2)) :
  Calls Try.prog 11 #[.slice A0 l0.length c0] w fun e w' => e = .returned (.tuple #[.int .i64 r1,.int .i64 r2]) ∧ Below w.heap.size w w' := by
 have HR0 := Aside0.mk hr0
 have HC0 := Aside0.mk hc0
 clear hr0 hc0
 have HB := Aside0.mk (Below.refl w.heap.size w)
 have H : ((spec_l20Open.f l0).bind fun bt133 => ((spec_l20Count.f k bt133.1 bt133.2).bind fun bt136 => ((spec_l20Rd_pick.f k bt133.1 bt136.2 30).bind fun bt138 => ((spec_l20Root.f k bt133.1 bt138.2).bind fun bt140 => (some (wrap64 (bt136.1 - (wrap64 ((wrap64 (Int.tdiv bt138.1 29)) * 99))),bt140.1)))))) = some (r1,r2) := h
 clear h
 replace H := Option.bind_eq_some_iff.mp H
 obtain ⟨⟨t133,t134⟩,A20,H⟩ := H
 replace H : ((spec_l20Count.f k t133 t134).bind fun bt136 => ((spec_l20Rd_pick.f k t133 bt136.2 30).bind fun bt138 => ((spec_l20Root.f k t133 bt138.2).bind fun bt140 => (some (wrap64 (bt136.1 - (wrap64 ((wrap64 (Int.tdiv bt138.1 29)) * 99))),bt140.1))))) = some (r1,r2) := H
 have A2 := Aside0.mk A20
 clear A20
 replace H := Option.bind_eq_some_iff.mp H
 obtain ⟨⟨t136,t137⟩,A30,H⟩ := H
 replace H : ((spec_l20Rd_pick.f k t133 t137 30).bind fun bt138 => ((spec_l20Root.f k t133 bt138.2).bind fun bt140 => (some (wrap64 (t136 - (wrap64 ((wrap64 (Int.tdiv bt138.1 29)) * 99))),bt140.1)))) = some (r1,r2) := H
 have A3 := Aside0.mk A30
 clear A30
 replace H := Option.bind_eq_some_iff.mp H
 obtain ⟨⟨t138,t139⟩,A40,H⟩ := H
 replace H : ((spec_l20Root.f k t133 t139).bind fun bt140 => (some (wrap64 (t136 - (wrap64 ((wrap64 (Int.tdiv t138 29)) * 99))),bt140.1))) = some (r1,r2) := H
 have A4 := Aside0.mk A40
 clear A40
 replace H := Option.bind_eq_some_iff.mp H
 obtain ⟨⟨t140,t141⟩,A50,H⟩ := H
 replace H : (some (wrap64 (t136 - (wrap64 ((wrap64 (Int.tdiv t138 29)) * 99))),t140)) = some (r1,r2) := H
 have A5 := Aside0.mk A50
 clear A50
 simp only [Option.some.injEq,Prod.mk.injEq] at H
 obtain ⟨rfl,rfl⟩ := H
 go_enter Try.func11,Try.ntmps11
 go_wp2_with (first|((with_reducible refine gate_callee (f := 45) rfl ?_);refine goesL_ (some 6) rfl rfl Try.func45 (by kernel_rfl) rfl #[.slice A0 l0.length c0] rfl az ?_;(with_reducible refine (spec_l20Open.calls _ _ l0 t133 t134 w _ ?side1 ?side2 ?side3 A2.out).mono ?_);(case side1 => repeat (first|(with_reducible first|exact HB.out|apply below_alloc|apply pw_below_drewN|apply below_drew1)|exact HB.out));(case side2 => exact HR0.out);(case side3 => exact HC0.out);rintro e w6 ⟨g135,rfl,hi,hb,hb2⟩;refine ⟨_,rfl,?_⟩;have n0_ := Aside0.mk (hb);have n1_ := Aside0.mk (hi);clear HB;have HB := n0_;have HI135 := n1_;clear n0_ n1_;(try clear hb);(try clear hb2);(try clear hk);(try clear hi))|((with_reducible refine gate_callee (f := 46) rfl ?_);refine goesL_ (some 8) rfl rfl Try.func46 (by kernel_rfl) rfl #[.pointer (some ⟨g135,0,none⟩)] rfl az ?_;(with_reducible refine (spec_l20Count.calls k g135 t133 t134 t136 t137 w _ ?side1 ?side2 A3.out).mono ?_);(case side1 => repeat (first|(with_reducible first|exact HI135.out|apply IsS77.alloc|apply IsS77.drewN|apply IsS77.drew|apply IsS77.set_1)|exact HI135.out));(case side2 => repeat (first|(with_reducible first|exact HB.out|apply below_alloc|apply pw_below_drewN|apply below_drew1|refine below_set ?_ (IsS77.ge HI135.out))|exact HB.out));rintro e w7 ⟨rfl,hi,hb,hk⟩;refine ⟨_,rfl,?_⟩;have n0_ := Aside0.mk (hb);have n1_ := Aside0.mk (hi);clear HB;clear HI135;have HB := n0_;have HI135 := n1_;clear n0_ n1_;(try clear hb);(try clear hb2);(try clear hk);(try clear hi))|((with_reducible refine gate_callee (f := 47) rfl ?_);refine goesL_ (some 10) rfl rfl Try.func47 (by kernel_rfl) rfl #[.pointer (some ⟨g135,0,none⟩),.int .i64 30] rfl az ?_;(with_reducible refine (spec_l20Rd_pick.calls k g135 t133 t137 30 t138 t139 w _ ?side1 ?side2 A4.out).mono ?_);(case side1 => repeat (first|(with_reducible first|exact HI135.out|apply IsS77.alloc|apply IsS77.drewN|apply IsS77.drew|apply IsS77.set_1)|exact HI135.out));(case side2 => repeat (first|(with_reducible first|exact HB.out|apply below_alloc|apply pw_below_drewN|apply below_drew1|refine below_set ?_ (IsS77.ge HI135.out))|exact HB.out));rintro e w8 ⟨rfl,hi,hb,hk⟩;refine ⟨_,rfl,?_⟩;have n0_ := Aside0.mk (hb);have n1_ := Aside0.mk (hi);clear HB;clear HI135;have HB := n0_;have HI135 := n1_;clear n0_ n1_;(try clear hb);(try clear hb2);(try clear hk);(try clear hi))|((with_reducible refine gate_callee (f := 48) rfl ?_);refine goesL_ (some 15) rfl rfl Try.func48 (by kernel_rfl) rfl #[.pointer (some ⟨g135,0,none⟩)] rfl az ?_;(with_reducible refine (spec_l20Root.calls k g135 t133 t139 t140 t141 w _ ?side1 ?side2 A5.out).mono ?_);(case side1 => repeat (first|(with_reducible first|exact HI135.out|apply IsS77.alloc|apply IsS77.drewN|apply IsS77.drew|apply IsS77.set_1)|exact HI135.out));(case side2 => repeat (first|(with_reducible first|exact HB.out|apply below_alloc|apply pw_below_drewN|apply below_drew1|refine below_set ?_ (IsS77.ge HI135.out))|exact HB.out));rintro e w9 ⟨rfl,hi,hb,hk⟩;refine ⟨_,rfl,?_⟩;have n0_ := Aside0.mk (hb);have n1_ := Aside0.mk (hi);clear HB;clear HI135;have HB := n0_;have HI135 := n1_;clear n0_ n1_;(try clear hb);(try clear hb2);(try clear hk);(try clear hi)))
 go_ret2
 exact ⟨by first|rfl|(simp [errW_none,errW_some] <;> rfl)|(simp [*,errW_none,errW_some] <;> rfl),by repeat (first|(with_reducible first|exact HB.out|apply below_alloc|apply pw_below_drewN|apply below_drew1|refine below_set ?_ (IsS77.ge HI135.out))|exact HB.out)⟩

end Go.Proofs.Ytpgkpahhohfmhaa.P
