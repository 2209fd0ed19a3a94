/- The walk of one Go function that the law reaches: it comes to what the Lean function of its name tells. -/
import Derived.Test.YtpgkpahhohfmhaaP0
import Derived.Test.YtpgkpahhohfmhaaPspecl20Open
import Derived.Test.YtpgkpahhohfmhaaPspecl20Rdpick
namespace Go.Proofs.Ytpgkpahhohfmhaa.P
open Go.RowKit Go.Proofs.YtpgkpahhohfmhaaW.PrintWords Go.Proofs.YtpgkpahhohfmhaaW.PrintLast Go.Proofs.YtpgkpahhohfmhaaW.PrintMore
attribute [local go_sem] max2_int min2_int max_two min_two max_three min_three max_four min_four   
set_option linter.unusedVariables false
set_option linter.unusedSimpArgs false

/-! ### spec_l20Count: function 46 -/
def spec_l20Count.f (k : Nat) (s0_0 : List Int) (s0_1 : Int) : Option (Int × Int) := (spec_l20Rd_pick.f k s0_0 s0_1 4).bind fun bt107 => (if bt107.1 = 0 then ((spec_l20Rd_pick.f k s0_0 bt107.2 20).bind fun bt109 => (some (bt109.1,bt109.2))) else (if bt107.1 = 1 then ((spec_l20Rd_pick.f k s0_0 bt107.2 256).bind fun bt111 => ((spec_l20Rd_pick.f k s0_0 bt111.2 256).bind fun bt113 => (some (wrap64 (bt111.1 * bt113.1),bt113.2)))) else (if bt107.1 = 2 then ((spec_l20Rd_pick.f k s0_0 bt107.2 256).bind fun bt115 => ((spec_l20Rd_pick.f k s0_0 bt115.2 256).bind fun bt117 => ((spec_l20Rd_pick.f k s0_0 bt117.2 256).bind fun bt119 => ((spec_l20Rd_pick.f k s0_0 bt119.2 256).bind fun bt121 => (some (wrap64 ((wrap64 ((wrap64 ((wrap64 (bt115.1 * bt117.1)) * bt119.1)) * 60)) + bt121.1),bt121.2)))))) else ((spec_l20Rd_pick.f k s0_0 bt107.2 256).bind fun bt123 => (some (bt123.1,bt123.2))))))
theorem spec_l20Count.mono : ∀ a0 a1 k,LeO (spec_l20Count.f k a0 a1) (spec_l20Count.f (k + 1) a0 a1) := by
 intro a0 a1 k
 unfold spec_l20Count.f
 repeat' first|(with_reducible first|exact spec_l20Rd_pick.mono _ _ _ _|exact LeO.refl _|exact LeO.none _|refine LeO.ite ?_ ?_|refine LeO.bind ?_ (fun _ => ?_))|exact spec_l20Rd_pick.mono _ _ _ _|exact LeO.none _|refine LeO.ite ?_ ?_|refine LeO.bind ?_ (fun _ => ?_)
set_option maxHeartbeats 8000000 in
set_option maxRecDepth 100000 in
theorem spec_l20Count.calls (k : Nat) (g : Nat) (s0_0 : List Int) (s0_1 : Int) (r1 : Int) (r2 : Int) (w0 w : World) (hI : IsS77 w0 w g s0_0 s0_1) (hB : Below w0.heap.size w0 w) (h : spec_l20Count.f k s0_0 s0_1 = some (r1,r2)) :
  Calls Try.prog 46 #[.pointer (some ⟨g,0,none⟩)] w fun e w' => e = .returned (.int .i64 r1) ∧ IsS77 w0 w' g s0_0 r2 ∧ Below w0.heap.size w0 w' ∧ KeepBut w w' g none := by
 have HI0 := Aside0.mk hI
 have HK := Aside0.mk (KeepBut.refl w g none)
 have HL := Aside0.mk hB.size
 clear hI
 have HW0 := Aside0.mk hB.size
 have HB := Aside0.mk hB
 clear hB
 have H : ((spec_l20Rd_pick.f k s0_0 s0_1 4).bind fun bt107 => (if bt107.1 = 0 then ((spec_l20Rd_pick.f k s0_0 bt107.2 20).bind fun bt109 => (some (bt109.1,bt109.2))) else (if bt107.1 = 1 then ((spec_l20Rd_pick.f k s0_0 bt107.2 256).bind fun bt111 => ((spec_l20Rd_pick.f k s0_0 bt111.2 256).bind fun bt113 => (some (wrap64 (bt111.1 * bt113.1),bt113.2)))) else (if bt107.1 = 2 then ((spec_l20Rd_pick.f k s0_0 bt107.2 256).bind fun bt115 => ((spec_l20Rd_pick.f k s0_0 bt115.2 256).bind fun bt117 => ((spec_l20Rd_pick.f k s0_0 bt117.2 256).bind fun bt119 => ((spec_l20Rd_pick.f k s0_0 bt119.2 256).bind fun bt121 => (some (wrap64 ((wrap64 ((wrap64 ((wrap64 (bt115.1 * bt117.1)) * bt119.1)) * 60)) + bt121.1),bt121.2)))))) else ((spec_l20Rd_pick.f k s0_0 bt107.2 256).bind fun bt123 => (some (bt123.1,bt123.2))))))) = some (r1,r2) := h
 clear h
 replace H := Option.bind_eq_some_iff.mp H
 obtain ⟨⟨t107,t108⟩,A20,H⟩ := H
 replace H : (if t107 = 0 then ((spec_l20Rd_pick.f k s0_0 t108 20).bind fun bt109 => (some (bt109.1,bt109.2))) else (if t107 = 1 then ((spec_l20Rd_pick.f k s0_0 t108 256).bind fun bt111 => ((spec_l20Rd_pick.f k s0_0 bt111.2 256).bind fun bt113 => (some (wrap64 (bt111.1 * bt113.1),bt113.2)))) else (if t107 = 2 then ((spec_l20Rd_pick.f k s0_0 t108 256).bind fun bt115 => ((spec_l20Rd_pick.f k s0_0 bt115.2 256).bind fun bt117 => ((spec_l20Rd_pick.f k s0_0 bt117.2 256).bind fun bt119 => ((spec_l20Rd_pick.f k s0_0 bt119.2 256).bind fun bt121 => (some (wrap64 ((wrap64 ((wrap64 ((wrap64 (bt115.1 * bt117.1)) * bt119.1)) * 60)) + bt121.1),bt121.2)))))) else ((spec_l20Rd_pick.f k s0_0 t108 256).bind fun bt123 => (some (bt123.1,bt123.2)))))) = some (r1,r2) := H
 have A2 := Aside0.mk A20
 clear A20
 by_cases c3 : t107 = 0
 ·rw [if_pos c3] at H
  have c3b0 : (t107 == 0) = true := beq_iff_eq.mpr c3
  have c3b1 : (t107 != 0) = false := bne_eq_false_iff_eq.mpr c3
  clear c3
  replace H := Option.bind_eq_some_iff.mp H
  obtain ⟨⟨t109,t110⟩,A40,H⟩ := H
  replace H : (some (t109,t110)) = some (r1,r2) := H
  have A4 := Aside0.mk A40
  clear A40
  simp only [Option.some.injEq,Prod.mk.injEq] at H
  obtain ⟨rfl,rfl⟩ := H
  go_enter Try.func46,Try.ntmps46
  go_wp2_with (first|((with_reducible refine gate_callee (f := 47) rfl ?_);refine goesL_ (some 4) rfl rfl Try.func47 (by kernel_rfl) rfl #[.pointer (some ⟨g,0,none⟩),.int .i64 4] rfl az ?_;(with_reducible refine (spec_l20Rd_pick.calls k g s0_0 s0_1 4 t107 t108 w0 _ ?side1 ?side2 A2.out).mono ?_);(case side1 => repeat (first|(with_reducible first|exact HI0.out|apply IsS77.alloc|apply IsS77.drewN|apply IsS77.drew|apply IsS77.set_1)|exact HI0.out));(case side2 => repeat (first|(with_reducible first|exact HB.out|apply below_alloc|apply pw_below_drewN|apply below_drew1|refine below_set ?_ (IsS77.ge HI0.out))|exact HB.out));rintro e w5 ⟨rfl,hi,hb,hk⟩;refine ⟨_,rfl,?_⟩;have n0_ := Aside0.mk (KeepBut.trans kz hk (.inl rfl));have n1_ := Aside0.mk (hb);have n2_ := Aside0.mk (hi);clear HK;clear HB;clear HI0;have HK := n0_;have HB := n1_;have HI0 := n2_;clear n0_ n1_ n2_;(try clear hb);(try clear hb2);(try clear hk);(try clear hi))|((with_reducible refine gate_callee (f := 47) rfl ?_);refine goesL_ (some 8) rfl rfl Try.func47 (by kernel_rfl) rfl #[.pointer (some ⟨g,0,none⟩),.int .i64 20] rfl az ?_;(with_reducible refine (spec_l20Rd_pick.calls k g s0_0 t108 20 t109 t110 w0 _ ?side1 ?side2 A4.out).mono ?_);(case side1 => repeat (first|(with_reducible first|exact HI0.out|apply IsS77.alloc|apply IsS77.drewN|apply IsS77.drew|apply IsS77.set_1)|exact HI0.out));(case side2 => repeat (first|(with_reducible first|exact HB.out|apply below_alloc|apply pw_below_drewN|apply below_drew1|refine below_set ?_ (IsS77.ge HI0.out))|exact HB.out));rintro e w6 ⟨rfl,hi,hb,hk⟩;refine ⟨_,rfl,?_⟩;have n0_ := Aside0.mk (KeepBut.trans kz hk (.inl rfl));have n1_ := Aside0.mk (hb);have n2_ := Aside0.mk (hi);clear HK;clear HB;clear HI0;have HK := n0_;have HB := n1_;have HI0 := n2_;clear n0_ n1_ n2_;(try clear hb);(try clear hb2);(try clear hk);(try clear hi)))
  go_ret
  exact ⟨by first|rfl|(simp [errW_none,errW_some] <;> rfl)|(simp [*,errW_none,errW_some] <;> rfl),by repeat (first|(with_reducible first|exact HI0.out|apply IsS77.alloc|apply IsS77.drewN|apply IsS77.drew|apply IsS77.set_1)|exact HI0.out),by repeat (first|(with_reducible first|exact HB.out|apply below_alloc|apply pw_below_drewN|apply below_drew1|refine below_set ?_ (IsS77.ge HI0.out))|exact HB.out),by repeat (first|(with_reducible first|exact HK.out|apply KeepBut.set_|apply keep_drewN|apply keep_drew|apply keep_alloc)|exact HK.out)⟩
 ·rw [if_neg c3] at H
  have c3b0 : (t107 == 0) = false := beq_eq_false_iff_ne.mpr c3
  have c3b1 : (t107 != 0) = true := bne_iff_ne.mpr c3
  by_cases c7 : t107 = 1
  ·rw [if_pos c7] at H
   have c7b0 : (t107 == 1) = true := beq_iff_eq.mpr c7
   have c7b1 : (t107 != 1) = false := bne_eq_false_iff_eq.mpr c7
   clear c7
   replace H := Option.bind_eq_some_iff.mp H
   obtain ⟨⟨t111,t112⟩,A80,H⟩ := H
   replace H : ((spec_l20Rd_pick.f k s0_0 t112 256).bind fun bt113 => (some (wrap64 (t111 * bt113.1),bt113.2))) = some (r1,r2) := H
   have A8 := Aside0.mk A80
   clear A80
   replace H := Option.bind_eq_some_iff.mp H
   obtain ⟨⟨t113,t114⟩,A90,H⟩ := H
   replace H : (some (wrap64 (t111 * t113),t114)) = some (r1,r2) := H
   have A9 := Aside0.mk A90
   clear A90
   simp only [Option.some.injEq,Prod.mk.injEq] at H
   obtain ⟨rfl,rfl⟩ := H
   go_enter Try.func46,Try.ntmps46
   go_wp2_with (first|((with_reducible refine gate_callee (f := 47) rfl ?_);refine goesL_ (some 4) rfl rfl Try.func47 (by kernel_rfl) rfl #[.pointer (some ⟨g,0,none⟩),.int .i64 4] rfl az ?_;(with_reducible refine (spec_l20Rd_pick.calls k g s0_0 s0_1 4 t107 t108 w0 _ ?side1 ?side2 A2.out).mono ?_);(case side1 => repeat (first|(with_reducible first|exact HI0.out|apply IsS77.alloc|apply IsS77.drewN|apply IsS77.drew|apply IsS77.set_1)|exact HI0.out));(case side2 => repeat (first|(with_reducible first|exact HB.out|apply below_alloc|apply pw_below_drewN|apply below_drew1|refine below_set ?_ (IsS77.ge HI0.out))|exact HB.out));rintro e w10 ⟨rfl,hi,hb,hk⟩;refine ⟨_,rfl,?_⟩;have n0_ := Aside0.mk (KeepBut.trans kz hk (.inl rfl));have n1_ := Aside0.mk (hb);have n2_ := Aside0.mk (hi);clear HK;clear HB;clear HI0;have HK := n0_;have HB := n1_;have HI0 := n2_;clear n0_ n1_ n2_;(try clear hb);(try clear hb2);(try clear hk);(try clear hi))|((with_reducible refine gate_callee (f := 47) rfl ?_);refine goesL_ (some 12) rfl rfl Try.func47 (by kernel_rfl) rfl #[.pointer (some ⟨g,0,none⟩),.int .i64 256] rfl az ?_;(with_reducible refine (spec_l20Rd_pick.calls k g s0_0 t108 256 t111 t112 w0 _ ?side1 ?side2 A8.out).mono ?_);(case side1 => repeat (first|(with_reducible first|exact HI0.out|apply IsS77.alloc|apply IsS77.drewN|apply IsS77.drew|apply IsS77.set_1)|exact HI0.out));(case side2 => repeat (first|(with_reducible first|exact HB.out|apply below_alloc|apply pw_below_drewN|apply below_drew1|refine below_set ?_ (IsS77.ge HI0.out))|exact HB.out));rintro e w11 ⟨rfl,hi,hb,hk⟩;refine ⟨_,rfl,?_⟩;have n0_ := Aside0.mk (KeepBut.trans kz hk (.inl rfl));have n1_ := Aside0.mk (hb);have n2_ := Aside0.mk (hi);clear HK;clear HB;clear HI0;have HK := n0_;have HB := n1_;have HI0 := n2_;clear n0_ n1_ n2_;(try clear hb);(try clear hb2);(try clear hk);(try clear hi))|((with_reducible refine gate_callee (f := 47) rfl ?_);refine goesL_ (some 14) rfl rfl Try.func47 (by kernel_rfl) rfl #[.pointer (some ⟨g,0,none⟩),.int .i64 256] rfl az ?_;(with_reducible refine (spec_l20Rd_pick.calls k g s0_0 t112 256 t113 t114 w0 _ ?side1 ?side2 A9.out).mono ?_);(case side1 => repeat (first|(with_reducible first|exact HI0.out|apply IsS77.alloc|apply IsS77.drewN|apply IsS77.drew|apply IsS77.set_1)|exact HI0.out));(case side2 => repeat (first|(with_reducible first|exact HB.out|apply below_alloc|apply pw_below_drewN|apply below_drew1|refine below_set ?_ (IsS77.ge HI0.out))|exact HB.out));rintro e w12 ⟨rfl,hi,hb,hk⟩;refine ⟨_,rfl,?_⟩;have n0_ := Aside0.mk (KeepBut.trans kz hk (.inl rfl));have n1_ := Aside0.mk (hb);have n2_ := Aside0.mk (hi);clear HK;clear HB;clear HI0;have HK := n0_;have HB := n1_;have HI0 := n2_;clear n0_ n1_ n2_;(try clear hb);(try clear hb2);(try clear hk);(try clear hi)))
   go_ret
   exact ⟨by first|rfl|(simp [errW_none,errW_some] <;> rfl)|(simp [*,errW_none,errW_some] <;> rfl),by repeat (first|(with_reducible first|exact HI0.out|apply IsS77.alloc|apply IsS77.drewN|apply IsS77.drew|apply IsS77.set_1)|exact HI0.out),by repeat (first|(with_reducible first|exact HB.out|apply below_alloc|apply pw_below_drewN|apply below_drew1|refine below_set ?_ (IsS77.ge HI0.out))|exact HB.out),by repeat (first|(with_reducible first|exact HK.out|apply KeepBut.set_|apply keep_drewN|apply keep_drew|apply keep_alloc)|exact HK.out)⟩
  ·rw [if_neg c7] at H
   have c7b0 : (t107 == 1) = false := beq_eq_false_iff_ne.mpr c7
   have c7b1 : (t107 != 1) = true := bne_iff_ne.mpr c7
   by_cases c13 : t107 = 2
   ·rw [if_pos c13] at H
    have c13b0 : (t107 == 2) = true := beq_iff_eq.mpr c13
    have c13b1 : (t107 != 2) = false := bne_eq_false_iff_eq.mpr c13
    clear c13
    replace H := Option.bind_eq_some_iff.mp H
    obtain ⟨⟨t115,t116⟩,A140,H⟩ := H
    replace H : ((spec_l20Rd_pick.f k s0_0 t116 256).bind fun bt117 => ((spec_l20Rd_pick.f k s0_0 bt117.2 256).bind fun bt119 => ((spec_l20Rd_pick.f k s0_0 bt119.2 256).bind fun bt121 => (some (wrap64 ((wrap64 ((wrap64 ((wrap64 (t115 * bt117.1)) * bt119.1)) * 60)) + bt121.1),bt121.2))))) = some (r1,r2) := H
    have A14 := Aside0.mk A140
    clear A140
    replace H := Option.bind_eq_some_iff.mp H
    obtain ⟨⟨t117,t118⟩,A150,H⟩ := H
    replace H : ((spec_l20Rd_pick.f k s0_0 t118 256).bind fun bt119 => ((spec_l20Rd_pick.f k s0_0 bt119.2 256).bind fun bt121 => (some (wrap64 ((wrap64 ((wrap64 ((wrap64 (t115 * t117)) * bt119.1)) * 60)) + bt121.1),bt121.2)))) = some (r1,r2) := H
    have A15 := Aside0.mk A150
    clear A150
    replace H := Option.bind_eq_some_iff.mp H
    obtain ⟨⟨t119,t120⟩,A160,H⟩ := H
    replace H : ((spec_l20Rd_pick.f k s0_0 t120 256).bind fun bt121 => (some (wrap64 ((wrap64 ((wrap64 ((wrap64 (t115 * t117)) * t119)) * 60)) + bt121.1),bt121.2))) = some (r1,r2) := H
    have A16 := Aside0.mk A160
    clear A160
    replace H := Option.bind_eq_some_iff.mp H
    obtain ⟨⟨t121,t122⟩,A170,H⟩ := H
    replace H : (some (wrap64 ((wrap64 ((wrap64 ((wrap64 (t115 * t117)) * t119)) * 60)) + t121),t122)) = some (r1,r2) := H
    have A17 := Aside0.mk A170
    clear A170
    simp only [Option.some.injEq,Prod.mk.injEq] at H
    obtain ⟨rfl,rfl⟩ := H
    go_enter Try.func46,Try.ntmps46
    go_wp2_with (first|((with_reducible refine gate_callee (f := 47) rfl ?_);refine goesL_ (some 4) rfl rfl Try.func47 (by kernel_rfl) rfl #[.pointer (some ⟨g,0,none⟩),.int .i64 4] rfl az ?_;(with_reducible refine (spec_l20Rd_pick.calls k g s0_0 s0_1 4 t107 t108 w0 _ ?side1 ?side2 A2.out).mono ?_);(case side1 => repeat (first|(with_reducible first|exact HI0.out|apply IsS77.alloc|apply IsS77.drewN|apply IsS77.drew|apply IsS77.set_1)|exact HI0.out));(case side2 => repeat (first|(with_reducible first|exact HB.out|apply below_alloc|apply pw_below_drewN|apply below_drew1|refine below_set ?_ (IsS77.ge HI0.out))|exact HB.out));rintro e w18 ⟨rfl,hi,hb,hk⟩;refine ⟨_,rfl,?_⟩;have n0_ := Aside0.mk (KeepBut.trans kz hk (.inl rfl));have n1_ := Aside0.mk (hb);have n2_ := Aside0.mk (hi);clear HK;clear HB;clear HI0;have HK := n0_;have HB := n1_;have HI0 := n2_;clear n0_ n1_ n2_;(try clear hb);(try clear hb2);(try clear hk);(try clear hi))|((with_reducible refine gate_callee (f := 47) rfl ?_);refine goesL_ (some 19) rfl rfl Try.func47 (by kernel_rfl) rfl #[.pointer (some ⟨g,0,none⟩),.int .i64 256] rfl az ?_;(with_reducible refine (spec_l20Rd_pick.calls k g s0_0 t108 256 t115 t116 w0 _ ?side1 ?side2 A14.out).mono ?_);(case side1 => repeat (first|(with_reducible first|exact HI0.out|apply IsS77.alloc|apply IsS77.drewN|apply IsS77.drew|apply IsS77.set_1)|exact HI0.out));(case side2 => repeat (first|(with_reducible first|exact HB.out|apply below_alloc|apply pw_below_drewN|apply below_drew1|refine below_set ?_ (IsS77.ge HI0.out))|exact HB.out));rintro e w19 ⟨rfl,hi,hb,hk⟩;refine ⟨_,rfl,?_⟩;have n0_ := Aside0.mk (KeepBut.trans kz hk (.inl rfl));have n1_ := Aside0.mk (hb);have n2_ := Aside0.mk (hi);clear HK;clear HB;clear HI0;have HK := n0_;have HB := n1_;have HI0 := n2_;clear n0_ n1_ n2_;(try clear hb);(try clear hb2);(try clear hk);(try clear hi))|((with_reducible refine gate_callee (f := 47) rfl ?_);refine goesL_ (some 21) rfl rfl Try.func47 (by kernel_rfl) rfl #[.pointer (some ⟨g,0,none⟩),.int .i64 256] rfl az ?_;(with_reducible refine (spec_l20Rd_pick.calls k g s0_0 t116 256 t117 t118 w0 _ ?side1 ?side2 A15.out).mono ?_);(case side1 => repeat (first|(with_reducible first|exact HI0.out|apply IsS77.alloc|apply IsS77.drewN|apply IsS77.drew|apply IsS77.set_1)|exact HI0.out));(case side2 => repeat (first|(with_reducible first|exact HB.out|apply below_alloc|apply pw_below_drewN|apply below_drew1|refine below_set ?_ (IsS77.ge HI0.out))|exact HB.out));rintro e w20 ⟨rfl,hi,hb,hk⟩;refine ⟨_,rfl,?_⟩;have n0_ := Aside0.mk (KeepBut.trans kz hk (.inl rfl));have n1_ := Aside0.mk (hb);have n2_ := Aside0.mk (hi);clear HK;clear HB;clear HI0;have HK := n0_;have HB := n1_;have HI0 := n2_;clear n0_ n1_ n2_;(try clear hb);(try clear hb2);(try clear hk);(try clear hi))|((with_reducible refine gate_callee (f := 47) rfl ?_);refine goesL_ (some 24) rfl rfl Try.func47 (by kernel_rfl) rfl #[.pointer (some ⟨g,0,none⟩),.int .i64 256] rfl az ?_;(with_reducible refine (spec_l20Rd_pick.calls k g s0_0 t118 256 t119 t120 w0 _ ?side1 ?side2 A16.out).mono ?_);(case side1 => repeat (first|(with_reducible first|exact HI0.out|apply IsS77.alloc|apply IsS77.drewN|apply IsS77.drew|apply IsS77.set_1)|exact HI0.out));(case side2 => repeat (first|(with_reducible first|exact HB.out|apply below_alloc|apply pw_below_drewN|apply below_drew1|refine below_set ?_ (IsS77.ge HI0.out))|exact HB.out));rintro e w21 ⟨rfl,hi,hb,hk⟩;refine ⟨_,rfl,?_⟩;have n0_ := Aside0.mk (KeepBut.trans kz hk (.inl rfl));have n1_ := Aside0.mk (hb);have n2_ := Aside0.mk (hi);clear HK;clear HB;clear HI0;have HK := n0_;have HB := n1_;have HI0 := n2_;clear n0_ n1_ n2_;(try clear hb);(try clear hb2);(try clear hk);(try clear hi))|((with_reducible refine gate_callee (f := 47) rfl ?_);refine goesL_ (some 28) rfl rfl Try.func47 (by kernel_rfl) rfl #[.pointer (some ⟨g,0,none⟩),.int .i64 256] rfl az ?_;(with_reducible refine (spec_l20Rd_pick.calls k g s0_0 t120 256 t121 t122 w0 _ ?side1 ?side2 A17.out).mono ?_);(case side1 => repeat (first|(with_reducible first|exact HI0.out|apply IsS77.alloc|apply IsS77.drewN|apply IsS77.drew|apply IsS77.set_1)|exact HI0.out));(case side2 => repeat (first|(with_reducible first|exact HB.out|apply below_alloc|apply pw_below_drewN|apply below_drew1|refine below_set ?_ (IsS77.ge HI0.out))|exact HB.out));rintro e w22 ⟨rfl,hi,hb,hk⟩;refine ⟨_,rfl,?_⟩;have n0_ := Aside0.mk (KeepBut.trans kz hk (.inl rfl));have n1_ := Aside0.mk (hb);have n2_ := Aside0.mk (hi);clear HK;clear HB;clear HI0;have HK := n0_;have HB := n1_;have HI0 := n2_;clear n0_ n1_ n2_;(try clear hb);(try clear hb2);(try clear hk);(try clear hi)))
    go_ret
    exact ⟨by first|rfl|(simp [errW_none,errW_some] <;> rfl)|(simp [*,errW_none,errW_some] <;> rfl),by repeat (first|(with_reducible first|exact HI0.out|apply IsS77.alloc|apply IsS77.drewN|apply IsS77.drew|apply IsS77.set_1)|exact HI0.out),by repeat (first|(with_reducible first|exact HB.out|apply below_alloc|apply pw_below_drewN|apply below_drew1|refine below_set ?_ (IsS77.ge HI0.out))|exact HB.out),by repeat (first|(with_reducible first|exact HK.out|apply KeepBut.set_|apply keep_drewN|apply keep_drew|apply keep_alloc)|exact HK.out)⟩
   ·rw [if_neg c13] at H
    have c13b0 : (t107 == 2) = false := beq_eq_false_iff_ne.mpr c13
    have c13b1 : (t107 != 2) = true := bne_iff_ne.mpr c13
    replace H := Option.bind_eq_some_iff.mp H
    obtain ⟨⟨t123,t124⟩,A230,H⟩ := H
    replace H : (some (t123,t124)) = some (r1,r2) := H
    have A23 := Aside0.mk A230
    clear A230
    simp only [Option.some.injEq,Prod.mk.injEq] at H
    obtain ⟨rfl,rfl⟩ := H
    go_enter Try.func46,Try.ntmps46
    go_wp2_with (first|((with_reducible refine gate_callee (f := 47) rfl ?_);refine goesL_ (some 4) rfl rfl Try.func47 (by kernel_rfl) rfl #[.pointer (some ⟨g,0,none⟩),.int .i64 4] rfl az ?_;(with_reducible refine (spec_l20Rd_pick.calls k g s0_0 s0_1 4 t107 t108 w0 _ ?side1 ?side2 A2.out).mono ?_);(case side1 => repeat (first|(with_reducible first|exact HI0.out|apply IsS77.alloc|apply IsS77.drewN|apply IsS77.drew|apply IsS77.set_1)|exact HI0.out));(case side2 => repeat (first|(with_reducible first|exact HB.out|apply below_alloc|apply pw_below_drewN|apply below_drew1|refine below_set ?_ (IsS77.ge HI0.out))|exact HB.out));rintro e w24 ⟨rfl,hi,hb,hk⟩;refine ⟨_,rfl,?_⟩;have n0_ := Aside0.mk (KeepBut.trans kz hk (.inl rfl));have n1_ := Aside0.mk (hb);have n2_ := Aside0.mk (hi);clear HK;clear HB;clear HI0;have HK := n0_;have HB := n1_;have HI0 := n2_;clear n0_ n1_ n2_;(try clear hb);(try clear hb2);(try clear hk);(try clear hi))|((with_reducible refine gate_callee (f := 47) rfl ?_);refine goesL_ (some 31) rfl rfl Try.func47 (by kernel_rfl) rfl #[.pointer (some ⟨g,0,none⟩),.int .i64 256] rfl az ?_;(with_reducible refine (spec_l20Rd_pick.calls k g s0_0 t108 256 t123 t124 w0 _ ?side1 ?side2 A23.out).mono ?_);(case side1 => repeat (first|(with_reducible first|exact HI0.out|apply IsS77.alloc|apply IsS77.drewN|apply IsS77.drew|apply IsS77.set_1)|exact HI0.out));(case side2 => repeat (first|(with_reducible first|exact HB.out|apply below_alloc|apply pw_below_drewN|apply below_drew1|refine below_set ?_ (IsS77.ge HI0.out))|exact HB.out));rintro e w25 ⟨rfl,hi,hb,hk⟩;refine ⟨_,rfl,?_⟩;have n0_ := Aside0.mk (KeepBut.trans kz hk (.inl rfl));have n1_ := Aside0.mk (hb);have n2_ := Aside0.mk (hi);clear HK;clear HB;clear HI0;have HK := n0_;have HB := n1_;have HI0 := n2_;clear n0_ n1_ n2_;(try clear hb);(try clear hb2);(try clear hk);(try clear hi)))
    go_ret
    exact ⟨by first|rfl|(simp [errW_none,errW_some] <;> rfl)|(simp [*,errW_none,errW_some] <;> rfl),by repeat (first|(with_reducible first|exact HI0.out|apply IsS77.alloc|apply IsS77.drewN|apply IsS77.drew|apply IsS77.set_1)|exact HI0.out),by repeat (first|(with_reducible first|exact HB.out|apply below_alloc|apply pw_below_drewN|apply below_drew1|refine below_set ?_ (IsS77.ge HI0.out))|exact HB.out),by repeat (first|(with_reducible first|exact HK.out|apply KeepBut.set_|apply keep_drewN|apply keep_drew|apply keep_alloc)|exact HK.out)⟩

end Go.Proofs.Ytpgkpahhohfmhaa.P
