/- The walk of one Go function that the law reaches: it comes to what the Lean function of its name tells. -/
import Derived.Test.YtpgkpahhohfmhaaP0
import Derived.Test.YtpgkpahhohfmhaaPspecl20Open
import Derived.Test.YtpgkpahhohfmhaaPspecl20Rdpick
namespace Go.Proofs.Ytpgkpahhohfmhaa.P
open Go.RowKit Go.Proofs.YtpgkpahhohfmhaaW.PrintWords Go.Proofs.YtpgkpahhohfmhaaW.PrintLast Go.Proofs.YtpgkpahhohfmhaaW.PrintMore
attribute [local go_sem] max2_int min2_int max_two min_two max_three min_three max_four min_four   
set_option linter.unusedVariables false
set_option linter.unusedSimpArgs false

/-! ### spec_l20Root: function 48 -/
def spec_l20Root.f (k : Nat) (s0_0 : List Int) (s0_1 : Int) : Option (Int × Int) := (spec_l20Rd_pick.f k s0_0 s0_1 9).bind fun bt125 => ((spec_l20Rd_pick.f k s0_0 bt125.2 12).bind fun bt127 => ((spec_l20Rd_pick.f k s0_0 bt127.2 90).bind fun bt129 => ((spec_l20Rd_pick.f k s0_0 bt129.2 40).bind fun bt131 => (some (wrap64 ((wrap64 ((wrap64 (2 + bt125.1)) + (wrap64 ((wrap64 (Int.tdiv bt127.1 11)) * bt129.1)))) - (wrap64 ((wrap64 (Int.tdiv bt131.1 39)) * 3))),bt131.2)))))
theorem spec_l20Root.mono : ∀ a0 a1 k,LeO (spec_l20Root.f k a0 a1) (spec_l20Root.f (k + 1) a0 a1) := by
 intro a0 a1 k
 unfold spec_l20Root.f
 repeat' first|(with_reducible first|exact spec_l20Rd_pick.mono _ _ _ _|exact LeO.refl _|exact LeO.none _|refine LeO.ite ?_ ?_|refine LeO.bind ?_ (fun _ => ?_))|exact spec_l20Rd_pick.mono _ _ _ _|exact LeO.none _|refine LeO.ite ?_ ?_|refine LeO.bind ?_ (fun _ => ?_)
set_option maxHeartbeats 8000000 in
set_option maxRecDepth 100000 in
theorem spec_l20Root.calls (k : Nat) (g : Nat) (s0_0 : List Int) (s0_1 : Int) (r1 : Int) (r2 : Int) (w0 w : World) (hI : IsS77 w0 w g s0_0 s0_1) (hB : Below w0.heap.size w0 w) (h : spec_l20Root.f k s0_0 s0_1 = some (r1,r2)) :
  Calls Try.prog 48 #[.pointer (some ⟨g,0,none⟩)] w fun e w' => e = .returned (.int .i64 r1) ∧ IsS77 w0 w' g s0_0 r2 ∧ Below w0.heap.size w0 w' ∧ KeepBut w w' g none := by
 have HI0 := Aside0.mk hI
 have HK := Aside0.mk (KeepBut.refl w g none)
 have HL := Aside0.mk hB.size
 clear hI
 have HW0 := Aside0.mk hB.size
 have HB := Aside0.mk hB
 clear hB
 have H : ((spec_l20Rd_pick.f k s0_0 s0_1 9).bind fun bt125 => ((spec_l20Rd_pick.f k s0_0 bt125.2 12).bind fun bt127 => ((spec_l20Rd_pick.f k s0_0 bt127.2 90).bind fun bt129 => ((spec_l20Rd_pick.f k s0_0 bt129.2 40).bind fun bt131 => (some (wrap64 ((wrap64 ((wrap64 (2 + bt125.1)) + (wrap64 ((wrap64 (Int.tdiv bt127.1 11)) * bt129.1)))) - (wrap64 ((wrap64 (Int.tdiv bt131.1 39)) * 3))),bt131.2)))))) = some (r1,r2) := h
 clear h
 replace H := Option.bind_eq_some_iff.mp H
 obtain ⟨⟨t125,t126⟩,A20,H⟩ := H
 replace H : ((spec_l20Rd_pick.f k s0_0 t126 12).bind fun bt127 => ((spec_l20Rd_pick.f k s0_0 bt127.2 90).bind fun bt129 => ((spec_l20Rd_pick.f k s0_0 bt129.2 40).bind fun bt131 => (some (wrap64 ((wrap64 ((wrap64 (2 + t125)) + (wrap64 ((wrap64 (Int.tdiv bt127.1 11)) * bt129.1)))) - (wrap64 ((wrap64 (Int.tdiv bt131.1 39)) * 3))),bt131.2))))) = some (r1,r2) := H
 have A2 := Aside0.mk A20
 clear A20
 replace H := Option.bind_eq_some_iff.mp H
 obtain ⟨⟨t127,t128⟩,A30,H⟩ := H
 replace H : ((spec_l20Rd_pick.f k s0_0 t128 90).bind fun bt129 => ((spec_l20Rd_pick.f k s0_0 bt129.2 40).bind fun bt131 => (some (wrap64 ((wrap64 ((wrap64 (2 + t125)) + (wrap64 ((wrap64 (Int.tdiv t127 11)) * bt129.1)))) - (wrap64 ((wrap64 (Int.tdiv bt131.1 39)) * 3))),bt131.2)))) = some (r1,r2) := H
 have A3 := Aside0.mk A30
 clear A30
 replace H := Option.bind_eq_some_iff.mp H
 obtain ⟨⟨t129,t130⟩,A40,H⟩ := H
 replace H : ((spec_l20Rd_pick.f k s0_0 t130 40).bind fun bt131 => (some (wrap64 ((wrap64 ((wrap64 (2 + t125)) + (wrap64 ((wrap64 (Int.tdiv t127 11)) * t129)))) - (wrap64 ((wrap64 (Int.tdiv bt131.1 39)) * 3))),bt131.2))) = some (r1,r2) := H
 have A4 := Aside0.mk A40
 clear A40
 replace H := Option.bind_eq_some_iff.mp H
 obtain ⟨⟨t131,t132⟩,A50,H⟩ := H
 replace H : (some (wrap64 ((wrap64 ((wrap64 (2 + t125)) + (wrap64 ((wrap64 (Int.tdiv t127 11)) * t129)))) - (wrap64 ((wrap64 (Int.tdiv t131 39)) * 3))),t132)) = some (r1,r2) := H
 have A5 := Aside0.mk A50
 clear A50
 simp only [Option.some.injEq,Prod.mk.injEq] at H
 obtain ⟨rfl,rfl⟩ := H
 go_enter Try.func48,Try.ntmps48
 go_wp2_with (first|((with_reducible refine gate_callee (f := 47) rfl ?_);refine goesL_ (some 4) rfl rfl Try.func47 (by kernel_rfl) rfl #[.pointer (some ⟨g,0,none⟩),.int .i64 9] rfl az ?_;(with_reducible refine (spec_l20Rd_pick.calls k g s0_0 s0_1 9 t125 t126 w0 _ ?side1 ?side2 A2.out).mono ?_);(case side1 => repeat (first|(with_reducible first|exact HI0.out|apply IsS77.alloc|apply IsS77.drewN|apply IsS77.drew|apply IsS77.set_1)|exact HI0.out));(case side2 => repeat (first|(with_reducible first|exact HB.out|apply below_alloc|apply pw_below_drewN|apply below_drew1|refine below_set ?_ (IsS77.ge HI0.out))|exact HB.out));rintro e w6 ⟨rfl,hi,hb,hk⟩;refine ⟨_,rfl,?_⟩;have n0_ := Aside0.mk (KeepBut.trans kz hk (.inl rfl));have n1_ := Aside0.mk (hb);have n2_ := Aside0.mk (hi);clear HK;clear HB;clear HI0;have HK := n0_;have HB := n1_;have HI0 := n2_;clear n0_ n1_ n2_;(try clear hb);(try clear hb2);(try clear hk);(try clear hi))|((with_reducible refine gate_callee (f := 47) rfl ?_);refine goesL_ (some 7) rfl rfl Try.func47 (by kernel_rfl) rfl #[.pointer (some ⟨g,0,none⟩),.int .i64 12] rfl az ?_;(with_reducible refine (spec_l20Rd_pick.calls k g s0_0 t126 12 t127 t128 w0 _ ?side1 ?side2 A3.out).mono ?_);(case side1 => repeat (first|(with_reducible first|exact HI0.out|apply IsS77.alloc|apply IsS77.drewN|apply IsS77.drew|apply IsS77.set_1)|exact HI0.out));(case side2 => repeat (first|(with_reducible first|exact HB.out|apply below_alloc|apply pw_below_drewN|apply below_drew1|refine below_set ?_ (IsS77.ge HI0.out))|exact HB.out));rintro e w7 ⟨rfl,hi,hb,hk⟩;refine ⟨_,rfl,?_⟩;have n0_ := Aside0.mk (KeepBut.trans kz hk (.inl rfl));have n1_ := Aside0.mk (hb);have n2_ := Aside0.mk (hi);clear HK;clear HB;clear HI0;have HK := n0_;have HB := n1_;have HI0 := n2_;clear n0_ n1_ n2_;(try clear hb);(try clear hb2);(try clear hk);(try clear hi))|((with_reducible refine gate_callee (f := 47) rfl ?_);refine goesL_ (some 10) rfl rfl Try.func47 (by kernel_rfl) rfl #[.pointer (some ⟨g,0,none⟩),.int .i64 90] rfl az ?_;(with_reducible refine (spec_l20Rd_pick.calls k g s0_0 t128 90 t129 t130 w0 _ ?side1 ?side2 A4.out).mono ?_);(case side1 => repeat (first|(with_reducible first|exact HI0.out|apply IsS77.alloc|apply IsS77.drewN|apply IsS77.drew|apply IsS77.set_1)|exact HI0.out));(case side2 => repeat (first|(with_reducible first|exact HB.out|apply below_alloc|apply pw_below_drewN|apply below_drew1|refine below_set ?_ (IsS77.ge HI0.out))|exact HB.out));rintro e w8 ⟨rfl,hi,hb,hk⟩;refine ⟨_,rfl,?_⟩;have n0_ := Aside0.mk (KeepBut.trans kz hk (.inl rfl));have n1_ := Aside0.mk (hb);have n2_ := Aside0.mk (hi);clear HK;clear HB;clear HI0;have HK := n0_;have HB := n1_;have HI0 := n2_;clear n0_ n1_ n2_;(try clear hb);(try clear hb2);(try clear hk);(try clear hi))|((with_reducible refine gate_callee (f := 47) rfl ?_);refine goesL_ (some 14) rfl rfl Try.func47 (by kernel_rfl) rfl #[.pointer (some ⟨g,0,none⟩),.int .i64 40] rfl az ?_;(with_reducible refine (spec_l20Rd_pick.calls k g s0_0 t130 40 t131 t132 w0 _ ?side1 ?side2 A5.out).mono ?_);(case side1 => repeat (first|(with_reducible first|exact HI0.out|apply IsS77.alloc|apply IsS77.drewN|apply IsS77.drew|apply IsS77.set_1)|exact HI0.out));(case side2 => repeat (first|(with_reducible first|exact HB.out|apply below_alloc|apply pw_below_drewN|apply below_drew1|refine below_set ?_ (IsS77.ge HI0.out))|exact HB.out));rintro e w9 ⟨rfl,hi,hb,hk⟩;refine ⟨_,rfl,?_⟩;have n0_ := Aside0.mk (KeepBut.trans kz hk (.inl rfl));have n1_ := Aside0.mk (hb);have n2_ := Aside0.mk (hi);clear HK;clear HB;clear HI0;have HK := n0_;have HB := n1_;have HI0 := n2_;clear n0_ n1_ n2_;(try clear hb);(try clear hb2);(try clear hk);(try clear hi)))
 go_ret
 exact ⟨by first|rfl|(simp [errW_none,errW_some] <;> rfl)|(simp [*,errW_none,errW_some] <;> rfl),by repeat (first|(with_reducible first|exact HI0.out|apply IsS77.alloc|apply IsS77.drewN|apply IsS77.drew|apply IsS77.set_1)|exact HI0.out),by repeat (first|(with_reducible first|exact HB.out|apply below_alloc|apply pw_below_drewN|apply below_drew1|refine below_set ?_ (IsS77.ge HI0.out))|exact HB.out),by repeat (first|(with_reducible first|exact HK.out|apply KeepBut.set_|apply keep_drewN|apply keep_drew|apply keep_alloc)|exact HK.out)⟩

end Go.Proofs.Ytpgkpahhohfmhaa.P
