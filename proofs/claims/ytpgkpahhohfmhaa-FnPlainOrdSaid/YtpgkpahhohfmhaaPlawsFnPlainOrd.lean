/- The walk of one Go function that the law reaches: it comes to what the Lean function of its name tells. -/
import Derived.Test.YtpgkpahhohfmhaaP0
import Derived.Test.YtpgkpahhohfmhaaPimplOrdInBase
import Derived.Test.YtpgkpahhohfmhaaPimplOrdValid
import Derived.Test.YtpgkpahhohfmhaaPimplPlainOrd
import Derived.Test.YtpgkpahhohfmhaaPimplSlowValue
import Derived.Test.YtpgkpahhohfmhaaPlawsalive
import Derived.Test.YtpgkpahhohfmhaaPlawssameInts
import Derived.Test.YtpgkpahhohfmhaaPspecDrawPlainOrd
import Derived.Test.YtpgkpahhohfmhaaPspecPlainOrd
namespace Go.Proofs.Ytpgkpahhohfmhaa.P
open Go.RowKit Go.Proofs.YtpgkpahhohfmhaaW.PrintWords Go.Proofs.YtpgkpahhohfmhaaW.PrintLast Go.Proofs.YtpgkpahhohfmhaaW.PrintMore
attribute [local go_sem] max2_int min2_int max_two min_two max_three min_three max_four min_four   
set_option linter.unusedVariables false
set_option linter.unusedSimpArgs false

/-! ### laws_FnPlainOrd: function 4 -/
mutual
def laws_FnPlainOrd.j1 : Nat → Int → Int → List Int → Int → Option (Bool)
 | 0,_,_,_,_ => none
 | k + 1,x3,x4,x5,x6 => (impl_OrdValid.f k x5).bind fun t423 => (if t423 = true then ((impl_SlowValue.f k x5 x4).bind fun t424 => (if t424 = x3 then (if x4 > 9 then (some true) else (if x3 ≥ x6 then (some true) else ((impl_OrdInBase.f k x3 x4).bind fun t425 => ((laws_sameInts.f k x5 t425).bind fun t428 => (some t428))))) else (some false))) else (some false))
def laws_FnPlainOrd.l0 : Nat → Int → Int → List Int → Int → Int → Option (Bool)
 | 0,_,_,_,_,_ => none
 | k + 1,x3,x4,x5,x6,x7 => if x7 < x4 then (if x4 ≤ 9 then (laws_FnPlainOrd.l0 k x3 x4 x5 (wrap64 (x6 * x4)) (wrap64 (x7 + 1))) else (laws_FnPlainOrd.j1 k x3 x4 x5 x6)) else (laws_FnPlainOrd.j1 k x3 x4 x5 x6)
end
def laws_FnPlainOrd.f (k : Nat) (l0 : List Int) : Option (Bool) := if (l0.length : Int) > 1048576 then (some true) else ((spec_DrawPlainOrd.f k l0).bind fun bt413 => ((impl_PlainOrd.f k bt413.1 bt413.2).bind fun t415 => ((spec_PlainOrd.f k bt413.1 bt413.2).bind fun t418 => ((laws_sameInts.f k t415 t418).bind fun t421 => (if t421 = true then (if (t415.length : Int) = 0 then ((laws_alive.f k).bind fun t422 => (some t422)) else (laws_FnPlainOrd.l0 k bt413.1 bt413.2 t415 1 0)) else (some false))))))
theorem laws_FnPlainOrd.mono_l : ∀ k,(∀ y0 y1 y2 y3,LeO (laws_FnPlainOrd.j1 k y0 y1 y2 y3) (laws_FnPlainOrd.j1 (k + 1) y0 y1 y2 y3)) ∧ (∀ y0 y1 y2 y3 y4,LeO (laws_FnPlainOrd.l0 k y0 y1 y2 y3 y4) (laws_FnPlainOrd.l0 (k + 1) y0 y1 y2 y3 y4))
 | 0 => ⟨fun _ _ _ _ r h => by simp [laws_FnPlainOrd.j1] at h,fun _ _ _ _ _ r h => by simp [laws_FnPlainOrd.l0] at h⟩
 | k + 1 => by
  obtain ⟨ih0,ih1⟩ := laws_FnPlainOrd.mono_l k
  refine ⟨?_,?_⟩
  ·intro y0 y1 y2 y3
   unfold laws_FnPlainOrd.j1
   repeat' first|(with_reducible first|exact ih0 _ _ _ _|exact impl_OrdInBase.mono _ _ _|exact impl_OrdValid.mono _ _|exact impl_SlowValue.mono _ _ _|exact laws_sameInts.mono _ _ _|exact LeO.refl _|exact LeO.none _|refine LeO.ite ?_ ?_|refine LeO.bind ?_ (fun _ => ?_))|exact ih0 _ _ _ _|exact impl_OrdInBase.mono _ _ _|exact impl_OrdValid.mono _ _|exact impl_SlowValue.mono _ _ _|exact laws_sameInts.mono _ _ _|exact LeO.none _|refine LeO.ite ?_ ?_|refine LeO.bind ?_ (fun _ => ?_)
  ·intro y0 y1 y2 y3 y4
   unfold laws_FnPlainOrd.l0
   repeat' first|(with_reducible first|exact ih0 _ _ _ _|exact ih1 _ _ _ _ _|exact LeO.refl _|exact LeO.none _|refine LeO.ite ?_ ?_|refine LeO.bind ?_ (fun _ => ?_))|exact ih0 _ _ _ _|exact ih1 _ _ _ _ _|exact LeO.none _|refine LeO.ite ?_ ?_|refine LeO.bind ?_ (fun _ => ?_)
theorem laws_FnPlainOrd.mono : ∀ a0 k,LeO (laws_FnPlainOrd.f k a0) (laws_FnPlainOrd.f (k + 1) a0) := by
 intro a0 k
 obtain ⟨ih0,ih1⟩ := laws_FnPlainOrd.mono_l k
 unfold laws_FnPlainOrd.f
 repeat' first|(with_reducible first|exact ih0 _ _ _ _|exact ih1 _ _ _ _ _|exact impl_PlainOrd.mono _ _ _|exact laws_alive.mono _|exact laws_sameInts.mono _ _ _|exact spec_DrawPlainOrd.mono _ _|exact spec_PlainOrd.mono _ _ _|exact LeO.refl _|exact LeO.none _|refine LeO.ite ?_ ?_|refine LeO.bind ?_ (fun _ => ?_))|exact ih0 _ _ _ _|exact ih1 _ _ _ _ _|exact impl_PlainOrd.mono _ _ _|exact laws_alive.mono _|exact laws_sameInts.mono _ _ _|exact spec_DrawPlainOrd.mono _ _|exact spec_PlainOrd.mono _ _ _|exact LeO.none _|refine LeO.ite ?_ ?_|refine LeO.bind ?_ (fun _ => ?_)
set_option maxHeartbeats 8000000 in
set_option maxRecDepth 100000 in
theorem laws_FnPlainOrd.calls (k : Nat) (A0 : Option Addr) (c0 : Nat) (l0 : List Int) (r : Bool) (w : World) (hr0 : Kd.C (Kd.int .u8) w A0 l0.length l0) (hc0 : l0.length ≤ c0) (h : laws_FnPlainOrd.f k l0 = some r) :
  Calls Try.prog 4 #[.slice A0 l0.length c0] w fun e w' => e = .returned (.bool r) ∧ Below w.heap.size w w' := by
 have HR0 := Aside0.mk hr0
 have HC0 := Aside0.mk hc0
 clear hr0 hc0
 have HB := Aside0.mk (Below.refl w.heap.size w)
 have H : (if (l0.length : Int) > 1048576 then (some true) else ((spec_DrawPlainOrd.f k l0).bind fun bt413 => ((impl_PlainOrd.f k bt413.1 bt413.2).bind fun t415 => ((spec_PlainOrd.f k bt413.1 bt413.2).bind fun t418 => ((laws_sameInts.f k t415 t418).bind fun t421 => (if t421 = true then (if (t415.length : Int) = 0 then ((laws_alive.f k).bind fun t422 => (some t422)) else (laws_FnPlainOrd.l0 k bt413.1 bt413.2 t415 1 0)) else (some false))))))) = some r := h
 clear h
 by_cases c2 : (l0.length : Int) > 1048576
 ·rw [if_pos c2] at H
  have c2b0 : decide (1048576 < (l0.length : Int)) = true := decide_eq_true c2
  have c2b1 : decide (1048576 < l0.length) = true := decide_eq_true (by omega)
  clear c2
  obtain rfl := Option.some.inj H
  go_enter Try.func4,Try.ntmps4
  go_wp2
  go_ret
  exact ⟨by first|rfl|(simp [errW_none,errW_some] <;> rfl)|(simp [*,errW_none,errW_some] <;> rfl),bz⟩
 ·rw [if_neg c2] at H
  have c2b0 : decide (1048576 < (l0.length : Int)) = false := decide_eq_false c2
  have c2b1 : decide (1048576 < l0.length) = false := decide_eq_false (by omega)
  clear c2
  replace H := Option.bind_eq_some_iff.mp H
  obtain ⟨⟨t413,t414⟩,A30,H⟩ := H
  replace H : ((impl_PlainOrd.f k t413 t414).bind fun t415 => ((spec_PlainOrd.f k t413 t414).bind fun t418 => ((laws_sameInts.f k t415 t418).bind fun t421 => (if t421 = true then (if (t415.length : Int) = 0 then ((laws_alive.f k).bind fun t422 => (some t422)) else (laws_FnPlainOrd.l0 k t413 t414 t415 1 0)) else (some false))))) = some r := H
  have A3 := Aside0.mk A30
  clear A30
  replace H := Option.bind_eq_some_iff.mp H
  obtain ⟨t415,A40,H⟩ := H
  replace H : ((spec_PlainOrd.f k t413 t414).bind fun t418 => ((laws_sameInts.f k t415 t418).bind fun t421 => (if t421 = true then (if (t415.length : Int) = 0 then ((laws_alive.f k).bind fun t422 => (some t422)) else (laws_FnPlainOrd.l0 k t413 t414 t415 1 0)) else (some false)))) = some r := H
  have A4 := Aside0.mk A40
  clear A40
  replace H := Option.bind_eq_some_iff.mp H
  obtain ⟨t418,A50,H⟩ := H
  replace H : ((laws_sameInts.f k t415 t418).bind fun t421 => (if t421 = true then (if (t415.length : Int) = 0 then ((laws_alive.f k).bind fun t422 => (some t422)) else (laws_FnPlainOrd.l0 k t413 t414 t415 1 0)) else (some false))) = some r := H
  have A5 := Aside0.mk A50
  clear A50
  replace H := Option.bind_eq_some_iff.mp H
  obtain ⟨t421,A60,H⟩ := H
  replace H : (if t421 = true then (if (t415.length : Int) = 0 then ((laws_alive.f k).bind fun t422 => (some t422)) else (laws_FnPlainOrd.l0 k t413 t414 t415 1 0)) else (some false)) = some r := H
  have A6 := Aside0.mk A60
  clear A60
  by_cases c7 : t421 = true
  ·subst c7
   have H1 : (if (t415.length : Int) = 0 then ((laws_alive.f k).bind fun t422 => (some t422)) else (laws_FnPlainOrd.l0 k t413 t414 t415 1 0)) = some r := by rw [if_pos rfl] at H;exact H
   clear H
   have H := H1
   clear H1
   by_cases c8 : (t415.length : Int) = 0
   ·rw [if_pos c8] at H
    have c8b0 : ((t415.length : Int) == 0) = true := beq_iff_eq.mpr c8
    have c8b1 : ((t415.length : Int) != 0) = false := bne_eq_false_iff_eq.mpr c8
    clear c8
    replace H := Option.bind_eq_some_iff.mp H
    obtain ⟨t422,A90,H⟩ := H
    replace H : (some t422) = some r := H
    have A9 := Aside0.mk A90
    clear A90
    obtain rfl := Option.some.inj H
    go_enter Try.func4,Try.ntmps4
    go_wp2_with (first|((with_reducible refine gate_callee (f := 20) rfl ?_);refine goesL_ (some 13) rfl rfl Try.func20 (by kernel_rfl) rfl #[.slice A0 l0.length c0] rfl az ?_;(with_reducible refine (spec_DrawPlainOrd.calls k _ _ l0 t413 t414 _ ?side1 ?side2 A3.out).mono ?_);(case side1 => exact Kd.Cz HR0.out);(case side2 => exact HC0.out);rintro e w10 ⟨rfl,hb⟩;refine ⟨_,rfl,?_⟩;have n0_ := Aside0.mk (below_step bz hb);clear HB;have HB := n0_;clear n0_;(try clear hb);(try clear hb2);(try clear hk);(try clear hi))|((with_reducible refine gate_callee (f := 21) rfl ?_);refine goesL_ (some 18) rfl rfl Try.func21 (by kernel_rfl) rfl #[.int .i64 t413,.int .i64 t414] rfl az ?_;(with_reducible refine (impl_PlainOrd.calls k t413 t414 t415 _ A4.out).mono ?_);rintro e w11 ⟨v416,rfl,ho0,hb⟩;refine ⟨_,rfl,?_⟩;have n0_ := Aside0.mk (Kd.R_lower ho0 (below_size bz));have n1_ := Aside0.mk (below_step bz hb);clear HB;have HO417 := n0_;have HB := n1_;clear n0_ n1_;(try clear hb);(try clear hb2);(try clear hk);(try clear hi);(try clear ho0))|((with_reducible refine gate_callee (f := 22) rfl ?_);refine goesL_ (some 22) rfl rfl Try.func22 (by kernel_rfl) rfl #[.int .i64 t413,.int .i64 t414] rfl az ?_;(with_reducible refine (spec_PlainOrd.calls k t413 t414 t418 _ A5.out).mono ?_);rintro e w12 ⟨v419,rfl,ho0,hb⟩;refine ⟨_,rfl,?_⟩;have n0_ := Aside0.mk (Kd.R_elder' (Kd.Rz HO417.out) (Kd.R_base ho0) hb);have n1_ := Aside0.mk (Kd.R_lower (Kd.R_new' ho0 (Kd.R_lt (Kd.Rz HO417.out))) (below_size bz));have n2_ := Aside0.mk (below_step bz hb);clear HO417;clear HB;have HO417 := n0_;have HO420 := n1_;have HB := n2_;clear n0_ n1_ n2_;(try clear hb);(try clear hb2);(try clear hk);(try clear hi);(try clear ho0);obtain ⟨Ao13,co13,eo13⟩ := Kd.R_slice HO417.out;subst eo13;obtain ⟨Ao14,co14,eo14⟩ := Kd.R_slice HO420.out;subst eo14)|((with_reducible refine gate_callee (f := 13) rfl ?_);refine goesL_ (some 23) rfl rfl Try.func13 (by kernel_rfl) rfl #[.slice Ao13 t415.length co13,.slice Ao14 t418.length co14] rfl az ?_;(with_reducible refine (laws_sameInts.calls k _ _ t415 _ _ t418 true _ ?side1 ?side2 ?side3 ?side4 A6.out).mono ?_);(case side1 => exact Kd.Cz (Kd.R_reads' HO417.out).2.2);(case side2 => exact (Kd.R_reads' HO417.out).2.1);(case side3 => exact Kd.Cz (Kd.R_reads' HO420.out).2.2);(case side4 => exact (Kd.R_reads' HO420.out).2.1);rintro e w' ⟨rfl,⟨nd,rfl⟩⟩;refine ⟨_,rfl,?_⟩)|((with_reducible refine gate_callee (f := 15) rfl ?_);refine goesL_ (some 28) rfl rfl Try.func15 (by kernel_rfl) rfl #[] rfl az ?_;(with_reducible refine (laws_alive.calls k  t422 _ A9.out).mono ?_);rintro e w15 ⟨rfl,hb⟩;refine ⟨_,rfl,?_⟩;have n0_ := Aside0.mk (Kd.R_below (Kd.Rz HO417.out) hb);have n1_ := Aside0.mk (Kd.R_below (Kd.Rz HO420.out) hb);have n2_ := Aside0.mk (below_step bz hb);clear HO417;clear HO420;clear HB;have HO417 := n0_;have HO420 := n1_;have HB := n2_;clear n0_ n1_ n2_;(try clear hb);(try clear hb2);(try clear hk);(try clear hi)))
    go_ret
    exact ⟨by first|rfl|(simp [errW_none,errW_some] <;> rfl)|(simp [*,errW_none,errW_some] <;> rfl),bz⟩
   ·rw [if_neg c8] at H
    have c8b0 : ((t415.length : Int) == 0) = false := beq_eq_false_iff_ne.mpr c8
    have c8b1 : ((t415.length : Int) != 0) = true := bne_iff_ne.mpr c8
    have c8b2 : ¬ (t415 = []) := fun h_ => c8 (by rw [h_];rfl)
    have HC16 := Aside0.mk H
    clear H
    go_enter Try.func4,Try.ntmps4
    go_upto_block 0 with (first|((with_reducible refine gate_callee (f := 20) rfl ?_);refine goesL_ (some 13) rfl rfl Try.func20 (by kernel_rfl) rfl #[.slice A0 l0.length c0] rfl az ?_;(with_reducible refine (spec_DrawPlainOrd.calls k _ _ l0 t413 t414 _ ?side1 ?side2 A3.out).mono ?_);(case side1 => exact Kd.Cz HR0.out);(case side2 => exact HC0.out);rintro e w17 ⟨rfl,hb⟩;refine ⟨_,rfl,?_⟩;have n0_ := Aside0.mk (below_step bz hb);clear HB;have HB := n0_;clear n0_;(try clear hb);(try clear hb2);(try clear hk);(try clear hi))|((with_reducible refine gate_callee (f := 21) rfl ?_);refine goesL_ (some 18) rfl rfl Try.func21 (by kernel_rfl) rfl #[.int .i64 t413,.int .i64 t414] rfl az ?_;(with_reducible refine (impl_PlainOrd.calls k t413 t414 t415 _ A4.out).mono ?_);rintro e w18 ⟨v416,rfl,ho0,hb⟩;refine ⟨_,rfl,?_⟩;have n0_ := Aside0.mk (Kd.R_lower ho0 (below_size bz));have n1_ := Aside0.mk (below_step bz hb);clear HB;have HO417 := n0_;have HB := n1_;clear n0_ n1_;(try clear hb);(try clear hb2);(try clear hk);(try clear hi);(try clear ho0))|((with_reducible refine gate_callee (f := 22) rfl ?_);refine goesL_ (some 22) rfl rfl Try.func22 (by kernel_rfl) rfl #[.int .i64 t413,.int .i64 t414] rfl az ?_;(with_reducible refine (spec_PlainOrd.calls k t413 t414 t418 _ A5.out).mono ?_);rintro e w19 ⟨v419,rfl,ho0,hb⟩;refine ⟨_,rfl,?_⟩;have n0_ := Aside0.mk (Kd.R_elder' (Kd.Rz HO417.out) (Kd.R_base ho0) hb);have n1_ := Aside0.mk (Kd.R_lower (Kd.R_new' ho0 (Kd.R_lt (Kd.Rz HO417.out))) (below_size bz));have n2_ := Aside0.mk (below_step bz hb);clear HO417;clear HB;have HO417 := n0_;have HO420 := n1_;have HB := n2_;clear n0_ n1_ n2_;(try clear hb);(try clear hb2);(try clear hk);(try clear hi);(try clear ho0);obtain ⟨Ao20,co20,eo20⟩ := Kd.R_slice HO417.out;subst eo20;obtain ⟨Ao21,co21,eo21⟩ := Kd.R_slice HO420.out;subst eo21)|((with_reducible refine gate_callee (f := 13) rfl ?_);refine goesL_ (some 23) rfl rfl Try.func13 (by kernel_rfl) rfl #[.slice Ao20 t415.length co20,.slice Ao21 t418.length co21] rfl az ?_;(with_reducible refine (laws_sameInts.calls k _ _ t415 _ _ t418 true _ ?side1 ?side2 ?side3 ?side4 A6.out).mono ?_);(case side1 => exact Kd.Cz (Kd.R_reads' HO417.out).2.2);(case side2 => exact (Kd.R_reads' HO417.out).2.1);(case side3 => exact Kd.Cz (Kd.R_reads' HO420.out).2.2);(case side4 => exact (Kd.R_reads' HO420.out).2.1);rintro e w' ⟨rfl,⟨nd,rfl⟩⟩;refine ⟨_,rfl,?_⟩))
    (try simp only [Act.put,List.setIfInBounds_toArray,List.set_cons_zero,List.set_cons_succ])
    go_cut [6] (fun v6 wc => ∃ (kq : Nat) (x6_15 : Int),v6 = .int .i64 x6_15 ∧ Aside0 (laws_FnPlainOrd.j1 kq t413 t414 t415 x6_15 = some r) ∧ Aside0 (kq ≤ k) ∧ Aside0 (Kd.R (Kd.int .i64) 3 wc w.heap.size (fun _ => True) (.slice Ao20 t415.length co20) t415) ∧ Aside0 (Below w.heap.size w wc))
    case first =>
     have H := HC16.out
     clear HC16
     have H' := Aside0.mk H
     clear H
     go_wp2
     go_loopg [6,7] k (fun kq v6 v7 w' => ∃ (x6_1 : Int) (x7_1 : Int),v6 = .int .i64 x6_1 ∧ v7 = .int .i64 x7_1 ∧ Aside0 (laws_FnPlainOrd.l0 kq t413 t414 t415 x6_1 x7_1 = some r) ∧ Aside0 (kq ≤ k) ∧ Aside0 (Kd.R (Kd.int .i64) 3 w' w.heap.size (fun _ => True) (.slice Ao20 t415.length co20) t415) ∧ Aside0 (Below w.heap.size w w'))
     case atStart => exact ⟨(1),(0),(by first|rfl|(simp;done)|(simp [*];done)),(by first|rfl|(simp;done)|(simp [*];done)),H',⟨Nat.le_refl _⟩,⟨by (with_reducible repeat (first|apply Kd.R_alloc|apply Kd.R_drewN|apply Kd.R_drew));exact Kd.R_mono HO417.out (fun _ hk => trivial)⟩,⟨bz⟩⟩
     case round =>
      clear H'
      try clear c1
      try clear c2
      try clear c2b0
      try clear c2b1
      try clear p2
      try clear c4
      try clear c7
      try clear c8
      try clear c8b0
      try clear c8b1
      try clear c8b2
      try clear c13
      try clear c15
      try clear c20
      try clear c21
      obtain ⟨x6_1,x7_1,rfl,rfl,HA,HK1,HO_5,HB⟩ := hrel
      cases gk with
      | zero => exact absurd HA.out (by simp [laws_FnPlainOrd.l0])
      | succ k1 =>
       have H := HA.out
       clear HA
       simp only [laws_FnPlainOrd.l0] at H
       by_cases c22 : x7_1 < t414
       ·rw [if_pos c22] at H
        have c22b0 : decide (x7_1 < t414) = true := decide_eq_true c22
        clear c22
        (first|rw [c22b0]|(simp only [i64_w,i32_w];rw [c22b0])|skip)
        by_cases c23 : t414 ≤ 9
        ·rw [if_pos c23] at H
         have c23b0 : decide (t414 ≤ 9) = true := decide_eq_true c23
         clear c23
         have H' := Aside0.mk H
         clear H
         go_wp2
         go_roundg k1
         case measure => have := HK1.out;omega
         case rel => exact ⟨(wrap64 (x6_1 * t414)),(wrap64 (x7_1 + 1)),(by first|rfl|(simp;done)|(simp [*];done)),(by first|rfl|(simp;done)|(simp [*];done)),H',⟨by have := HK1.out;omega⟩,⟨by (with_reducible repeat (first|apply Kd.R_alloc|apply Kd.R_drewN|apply Kd.R_drew));exact HO_5.out⟩,⟨bz⟩⟩
        ·rw [if_neg c23] at H
         have c23b0 : decide (t414 ≤ 9) = false := decide_eq_false c23
         clear c23
         have H' := Aside0.mk H
         clear H
         go_wp2
         go_meet
         case rel => exact ⟨_,(x6_1),(by first|rfl|(simp;done)|(simp [*];done)),H',⟨by have := HK1.out;first|omega|exact Nat.le_refl _⟩,⟨by (with_reducible repeat (first|apply Kd.R_alloc|apply Kd.R_drewN|apply Kd.R_drew));exact HO_5.out⟩,⟨bz⟩⟩
       ·rw [if_neg c22] at H
        have c22b0 : decide (x7_1 < t414) = false := decide_eq_false c22
        clear c22
        (first|rw [c22b0]|(simp only [i64_w,i32_w];rw [c22b0])|skip)
        have H' := Aside0.mk H
        clear H
        go_wp2
        go_meet
        case rel => exact ⟨_,(x6_1),(by first|rfl|(simp;done)|(simp [*];done)),H',⟨by have := HK1.out;first|omega|exact Nat.le_refl _⟩,⟨by (with_reducible repeat (first|apply Kd.R_alloc|apply Kd.R_drewN|apply Kd.R_drew));exact HO_5.out⟩,⟨bz⟩⟩
    case rest =>
     clear HC16
     try clear c1
     try clear c2
     try clear c2b0
     try clear c2b1
     try clear p2
     try clear c4
     try clear p6
     try clear c7
     try clear c8
     try clear c8b0
     try clear c8b1
     try clear c8b2
     try clear c13
     try clear c15
     try clear c20
     try clear c21
     try clear c22
     try clear c22b0
     try clear c23
     try clear c23b0
     try clear p2
     obtain ⟨kq,x6_15,rfl,HA,HJ15,HO_5,HB⟩ := hcut
     cases kq with
     | zero => exact absurd HA.out (by simp [laws_FnPlainOrd.j1])
     | succ kj15 =>
      have H := HA.out
      clear HA
      simp only [laws_FnPlainOrd.j1] at H
      replace H := Option.bind_eq_some_iff.mp H
      obtain ⟨t423,A240,H⟩ := H
      replace H : (if t423 = true then ((impl_SlowValue.f kj15 t415 t414).bind fun t424 => (if t424 = t413 then (if t414 > 9 then (some true) else (if t413 ≥ x6_15 then (some true) else ((impl_OrdInBase.f kj15 t413 t414).bind fun t425 => ((laws_sameInts.f kj15 t415 t425).bind fun t428 => (some t428))))) else (some false))) else (some false)) = some r := H
      have A24 := Aside0.mk A240
      clear A240
      by_cases c25 : t423 = true
      ·subst c25
       have H1 : ((impl_SlowValue.f kj15 t415 t414).bind fun t424 => (if t424 = t413 then (if t414 > 9 then (some true) else (if t413 ≥ x6_15 then (some true) else ((impl_OrdInBase.f kj15 t413 t414).bind fun t425 => ((laws_sameInts.f kj15 t415 t425).bind fun t428 => (some t428))))) else (some false))) = some r := by rw [if_pos rfl] at H;exact H
       clear H
       have H := H1
       clear H1
       replace H := Option.bind_eq_some_iff.mp H
       obtain ⟨t424,A260,H⟩ := H
       replace H : (if t424 = t413 then (if t414 > 9 then (some true) else (if t413 ≥ x6_15 then (some true) else ((impl_OrdInBase.f kj15 t413 t414).bind fun t425 => ((laws_sameInts.f kj15 t415 t425).bind fun t428 => (some t428))))) else (some false)) = some r := H
       have A26 := Aside0.mk A260
       clear A260
       by_cases c27 : t424 = t413
       ·rw [if_pos c27] at H
        have c27b0 : (t424 == t413) = true := beq_iff_eq.mpr c27
        have c27b1 : (t424 != t413) = false := bne_eq_false_iff_eq.mpr c27
        clear c27
        by_cases c28 : t414 > 9
        ·rw [if_pos c28] at H
         have c28b0 : decide (9 < t414) = true := decide_eq_true c28
         clear c28
         obtain rfl := Option.some.inj H
         go_wp2_with (first|((with_reducible refine gate_callee (f := 16) rfl ?_);refine goesL_ (some 42) rfl rfl Try.func16 (by kernel_rfl) rfl #[.slice Ao20 t415.length co20] rfl az ?_;(with_reducible refine (impl_OrdValid.calls kj15 _ _ t415 true _ ?side1 ?side2 A24.out).mono ?_);(case side1 => exact Kd.Cz (Kd.R_reads' HO_5.out).2.2);(case side2 => exact (Kd.R_reads' HO_5.out).2.1);rintro e w29 ⟨rfl,hb⟩;refine ⟨_,rfl,?_⟩;have n0_ := Aside0.mk (Kd.R_below (Kd.Rz HO_5.out) hb);have n1_ := Aside0.mk (below_step bz hb);clear HO_5;clear HB;have HO_5 := n0_;have HB := n1_;clear n0_ n1_;(try clear hb);(try clear hb2);(try clear hk);(try clear hi))|(go_at_call 18;(with_reducible refine (impl_SlowValue.calls kj15 _ _ t415 t414 t424 _ ?side1 ?side2 A26.out).mono ?_);(case side1 => exact Kd.Cz (Kd.R_reads' HO_5.out).2.2);(case side2 => exact (Kd.R_reads' HO_5.out).2.1);rintro e w30 ⟨rfl,hb⟩;have n0_ := Aside0.mk (Kd.R_below (Kd.Rz HO_5.out) hb);have n1_ := Aside0.mk (below_step bz hb);clear HO_5;clear HB;have HO_5 := n0_;have HB := n1_;clear n0_ n1_;(try clear hb);(try clear hb2);(try clear hk);(try clear hi)))
         go_ret
         exact ⟨by first|rfl|(simp [errW_none,errW_some] <;> rfl)|(simp [*,errW_none,errW_some] <;> rfl),bz⟩
        ·rw [if_neg c28] at H
         have c28b0 : decide (9 < t414) = false := decide_eq_false c28
         clear c28
         by_cases c31 : t413 ≥ x6_15
         ·rw [if_pos c31] at H
          have c31b0 : decide (x6_15 ≤ t413) = true := decide_eq_true c31
          clear c31
          obtain rfl := Option.some.inj H
          go_wp2_with (first|((with_reducible refine gate_callee (f := 16) rfl ?_);refine goesL_ (some 42) rfl rfl Try.func16 (by kernel_rfl) rfl #[.slice Ao20 t415.length co20] rfl az ?_;(with_reducible refine (impl_OrdValid.calls kj15 _ _ t415 true _ ?side1 ?side2 A24.out).mono ?_);(case side1 => exact Kd.Cz (Kd.R_reads' HO_5.out).2.2);(case side2 => exact (Kd.R_reads' HO_5.out).2.1);rintro e w32 ⟨rfl,hb⟩;refine ⟨_,rfl,?_⟩;have n0_ := Aside0.mk (Kd.R_below (Kd.Rz HO_5.out) hb);have n1_ := Aside0.mk (below_step bz hb);clear HO_5;clear HB;have HO_5 := n0_;have HB := n1_;clear n0_ n1_;(try clear hb);(try clear hb2);(try clear hk);(try clear hi))|(go_at_call 18;(with_reducible refine (impl_SlowValue.calls kj15 _ _ t415 t414 t424 _ ?side1 ?side2 A26.out).mono ?_);(case side1 => exact Kd.Cz (Kd.R_reads' HO_5.out).2.2);(case side2 => exact (Kd.R_reads' HO_5.out).2.1);rintro e w33 ⟨rfl,hb⟩;have n0_ := Aside0.mk (Kd.R_below (Kd.Rz HO_5.out) hb);have n1_ := Aside0.mk (below_step bz hb);clear HO_5;clear HB;have HO_5 := n0_;have HB := n1_;clear n0_ n1_;(try clear hb);(try clear hb2);(try clear hk);(try clear hi)))
          go_ret
          exact ⟨by first|rfl|(simp [errW_none,errW_some] <;> rfl)|(simp [*,errW_none,errW_some] <;> rfl),bz⟩
         ·rw [if_neg c31] at H
          have c31b0 : decide (x6_15 ≤ t413) = false := decide_eq_false c31
          clear c31
          replace H := Option.bind_eq_some_iff.mp H
          obtain ⟨t425,A340,H⟩ := H
          replace H : ((laws_sameInts.f kj15 t415 t425).bind fun t428 => (some t428)) = some r := H
          have A34 := Aside0.mk A340
          clear A340
          replace H := Option.bind_eq_some_iff.mp H
          obtain ⟨t428,A350,H⟩ := H
          replace H : (some t428) = some r := H
          have A35 := Aside0.mk A350
          clear A350
          obtain rfl := Option.some.inj H
          go_wp2_with (first|((with_reducible refine gate_callee (f := 16) rfl ?_);refine goesL_ (some 42) rfl rfl Try.func16 (by kernel_rfl) rfl #[.slice Ao20 t415.length co20] rfl az ?_;(with_reducible refine (impl_OrdValid.calls kj15 _ _ t415 true _ ?side1 ?side2 A24.out).mono ?_);(case side1 => exact Kd.Cz (Kd.R_reads' HO_5.out).2.2);(case side2 => exact (Kd.R_reads' HO_5.out).2.1);rintro e w36 ⟨rfl,hb⟩;refine ⟨_,rfl,?_⟩;have n0_ := Aside0.mk (Kd.R_below (Kd.Rz HO_5.out) hb);have n1_ := Aside0.mk (below_step bz hb);clear HO_5;clear HB;have HO_5 := n0_;have HB := n1_;clear n0_ n1_;(try clear hb);(try clear hb2);(try clear hk);(try clear hi))|(go_at_call 18;(with_reducible refine (impl_SlowValue.calls kj15 _ _ t415 t414 t424 _ ?side1 ?side2 A26.out).mono ?_);(case side1 => exact Kd.Cz (Kd.R_reads' HO_5.out).2.2);(case side2 => exact (Kd.R_reads' HO_5.out).2.1);rintro e w37 ⟨rfl,hb⟩;have n0_ := Aside0.mk (Kd.R_below (Kd.Rz HO_5.out) hb);have n1_ := Aside0.mk (below_step bz hb);clear HO_5;clear HB;have HO_5 := n0_;have HB := n1_;clear n0_ n1_;(try clear hb);(try clear hb2);(try clear hk);(try clear hi))|(go_at_call 12;(with_reducible refine (impl_OrdInBase.calls kj15 t413 t414 t425 _ A34.out).mono ?_);rintro e w38 ⟨v426,rfl,ho0,hb⟩;have n0_ := Aside0.mk (Kd.R_elder' (Kd.Rz HO_5.out) (Kd.R_base ho0) hb);have n1_ := Aside0.mk (Kd.R_lower (Kd.R_new' ho0 (Kd.R_lt (Kd.Rz HO_5.out))) (below_size bz));have n2_ := Aside0.mk (below_step bz hb);clear HO_5;clear HB;have HO_5 := n0_;have HO427 := n1_;have HB := n2_;clear n0_ n1_ n2_;(try clear hb);(try clear hb2);(try clear hk);(try clear hi);(try clear ho0);obtain ⟨Ao39,co39,eo39⟩ := Kd.R_slice HO427.out;subst eo39)|(go_at_call 13;(with_reducible refine (laws_sameInts.calls kj15 _ _ t415 _ _ t425 t428 _ ?side1 ?side2 ?side3 ?side4 A35.out).mono ?_);(case side1 => exact Kd.Cz (Kd.R_reads' HO_5.out).2.2);(case side2 => exact (Kd.R_reads' HO_5.out).2.1);(case side3 => exact Kd.Cz (Kd.R_reads' HO427.out).2.2);(case side4 => exact (Kd.R_reads' HO427.out).2.1);rintro e w' ⟨rfl,⟨nd,rfl⟩⟩))
          go_ret
          exact ⟨by first|rfl|(simp [errW_none,errW_some] <;> rfl)|(simp [*,errW_none,errW_some] <;> rfl),bz⟩
       ·rw [if_neg c27] at H
        have c27b0 : (t424 == t413) = false := beq_eq_false_iff_ne.mpr c27
        have c27b1 : (t424 != t413) = true := bne_iff_ne.mpr c27
        obtain rfl := Option.some.inj H
        go_wp2_with (first|((with_reducible refine gate_callee (f := 16) rfl ?_);refine goesL_ (some 42) rfl rfl Try.func16 (by kernel_rfl) rfl #[.slice Ao20 t415.length co20] rfl az ?_;(with_reducible refine (impl_OrdValid.calls kj15 _ _ t415 true _ ?side1 ?side2 A24.out).mono ?_);(case side1 => exact Kd.Cz (Kd.R_reads' HO_5.out).2.2);(case side2 => exact (Kd.R_reads' HO_5.out).2.1);rintro e w40 ⟨rfl,hb⟩;refine ⟨_,rfl,?_⟩;have n0_ := Aside0.mk (Kd.R_below (Kd.Rz HO_5.out) hb);have n1_ := Aside0.mk (below_step bz hb);clear HO_5;clear HB;have HO_5 := n0_;have HB := n1_;clear n0_ n1_;(try clear hb);(try clear hb2);(try clear hk);(try clear hi))|(go_at_call 18;(with_reducible refine (impl_SlowValue.calls kj15 _ _ t415 t414 t424 _ ?side1 ?side2 A26.out).mono ?_);(case side1 => exact Kd.Cz (Kd.R_reads' HO_5.out).2.2);(case side2 => exact (Kd.R_reads' HO_5.out).2.1);rintro e w41 ⟨rfl,hb⟩;have n0_ := Aside0.mk (Kd.R_below (Kd.Rz HO_5.out) hb);have n1_ := Aside0.mk (below_step bz hb);clear HO_5;clear HB;have HO_5 := n0_;have HB := n1_;clear n0_ n1_;(try clear hb);(try clear hb2);(try clear hk);(try clear hi)))
        go_ret
        exact ⟨by first|rfl|(simp [errW_none,errW_some] <;> rfl)|(simp [*,errW_none,errW_some] <;> rfl),bz⟩
      ·replace c25 := Bool.eq_false_iff.mpr c25
       subst c25
       have H1 : (some false) = some r := by rw [if_neg (show ¬ (false = true) by decide)] at H;exact H
       clear H
       have H := H1
       clear H1
       obtain rfl := Option.some.inj H
       go_wp2_with (first|((with_reducible refine gate_callee (f := 16) rfl ?_);refine goesL_ (some 42) rfl rfl Try.func16 (by kernel_rfl) rfl #[.slice Ao20 t415.length co20] rfl az ?_;(with_reducible refine (impl_OrdValid.calls kj15 _ _ t415 false _ ?side1 ?side2 A24.out).mono ?_);(case side1 => exact Kd.Cz (Kd.R_reads' HO_5.out).2.2);(case side2 => exact (Kd.R_reads' HO_5.out).2.1);rintro e w42 ⟨rfl,hb⟩;refine ⟨_,rfl,?_⟩;have n0_ := Aside0.mk (Kd.R_below (Kd.Rz HO_5.out) hb);have n1_ := Aside0.mk (below_step bz hb);clear HO_5;clear HB;have HO_5 := n0_;have HB := n1_;clear n0_ n1_;(try clear hb);(try clear hb2);(try clear hk);(try clear hi)))
       go_ret
       exact ⟨by first|rfl|(simp [errW_none,errW_some] <;> rfl)|(simp [*,errW_none,errW_some] <;> rfl),bz⟩
  ·replace c7 := Bool.eq_false_iff.mpr c7
   subst c7
   have H1 : (some false) = some r := by rw [if_neg (show ¬ (false = true) by decide)] at H;exact H
   clear H
   have H := H1
   clear H1
   obtain rfl := Option.some.inj H
   go_enter Try.func4,Try.ntmps4
   go_wp2_with (first|((with_reducible refine gate_callee (f := 20) rfl ?_);refine goesL_ (some 13) rfl rfl Try.func20 (by kernel_rfl) rfl #[.slice A0 l0.length c0] rfl az ?_;(with_reducible refine (spec_DrawPlainOrd.calls k _ _ l0 t413 t414 _ ?side1 ?side2 A3.out).mono ?_);(case side1 => exact Kd.Cz HR0.out);(case side2 => exact HC0.out);rintro e w43 ⟨rfl,hb⟩;refine ⟨_,rfl,?_⟩;have n0_ := Aside0.mk (below_step bz hb);clear HB;have HB := n0_;clear n0_;(try clear hb);(try clear hb2);(try clear hk);(try clear hi))|((with_reducible refine gate_callee (f := 21) rfl ?_);refine goesL_ (some 18) rfl rfl Try.func21 (by kernel_rfl) rfl #[.int .i64 t413,.int .i64 t414] rfl az ?_;(with_reducible refine (impl_PlainOrd.calls k t413 t414 t415 _ A4.out).mono ?_);rintro e w44 ⟨v416,rfl,ho0,hb⟩;refine ⟨_,rfl,?_⟩;have n0_ := Aside0.mk (Kd.R_lower ho0 (below_size bz));have n1_ := Aside0.mk (below_step bz hb);clear HB;have HO417 := n0_;have HB := n1_;clear n0_ n1_;(try clear hb);(try clear hb2);(try clear hk);(try clear hi);(try clear ho0))|((with_reducible refine gate_callee (f := 22) rfl ?_);refine goesL_ (some 22) rfl rfl Try.func22 (by kernel_rfl) rfl #[.int .i64 t413,.int .i64 t414] rfl az ?_;(with_reducible refine (spec_PlainOrd.calls k t413 t414 t418 _ A5.out).mono ?_);rintro e w45 ⟨v419,rfl,ho0,hb⟩;refine ⟨_,rfl,?_⟩;have n0_ := Aside0.mk (Kd.R_elder' (Kd.Rz HO417.out) (Kd.R_base ho0) hb);have n1_ := Aside0.mk (Kd.R_lower (Kd.R_new' ho0 (Kd.R_lt (Kd.Rz HO417.out))) (below_size bz));have n2_ := Aside0.mk (below_step bz hb);clear HO417;clear HB;have HO417 := n0_;have HO420 := n1_;have HB := n2_;clear n0_ n1_ n2_;(try clear hb);(try clear hb2);(try clear hk);(try clear hi);(try clear ho0);obtain ⟨Ao46,co46,eo46⟩ := Kd.R_slice HO417.out;subst eo46;obtain ⟨Ao47,co47,eo47⟩ := Kd.R_slice HO420.out;subst eo47)|((with_reducible refine gate_callee (f := 13) rfl ?_);refine goesL_ (some 23) rfl rfl Try.func13 (by kernel_rfl) rfl #[.slice Ao46 t415.length co46,.slice Ao47 t418.length co47] rfl az ?_;(with_reducible refine (laws_sameInts.calls k _ _ t415 _ _ t418 false _ ?side1 ?side2 ?side3 ?side4 A6.out).mono ?_);(case side1 => exact Kd.Cz (Kd.R_reads' HO417.out).2.2);(case side2 => exact (Kd.R_reads' HO417.out).2.1);(case side3 => exact Kd.Cz (Kd.R_reads' HO420.out).2.2);(case side4 => exact (Kd.R_reads' HO420.out).2.1);rintro e w' ⟨rfl,⟨nd,rfl⟩⟩;refine ⟨_,rfl,?_⟩))
   go_ret
   exact ⟨by first|rfl|(simp [errW_none,errW_some] <;> rfl)|(simp [*,errW_none,errW_some] <;> rfl),bz⟩

/-- THE ONE PURE STATEMENT of laws_FnPlainOrd: yours. -/
def laws_FnPlainOrd.Pure : Prop := ∀ (l0 : List Int),l0.length ≤ maxLen → l0.length * 1 ≤ 140737488351232 → (∀ x ∈ l0,(Lit.int .u8 x).wf = true) → ∃ k,laws_FnPlainOrd.f k l0 = some true
theorem laws_FnPlainOrd.walk (P : laws_FnPlainOrd.Pure) (a0 : Option Addr) (len0 cap0 : Nat) (z0 : List Int) (w : World) (w0 : (a0 = none ∧ len0 = 0 ∧ cap0 = 0 ∧ z0 = []) ∨ ∃ x,a0 = some x ∧ len0 ≤ cap0 ∧ cap0 ≤ maxLen ∧ z0.length = cap0 ∧ (∀ i,i < z0.length → w.cell? (x.add i) = some (.int .u8 (z0.getD i 0))) ∧ ∀ n ∈ z0,(Lit.int .u8 n).wf = true) (y0 : len0 * 1 ≤ 140737488351232) :
  Calls Try.prog 4 #[.slice a0 len0 cap0] w fun e w' => e = .returned (.bool true) ∧ Below w.heap.size w w' := by
 obtain ⟨l0,rfl,hr0,hm0,hw0,hc0⟩ := ReadsInt.ofRowC w0
 obtain ⟨k,h⟩ := P l0 hm0 y0 hw0
 refine (laws_FnPlainOrd.calls k _ _ l0 true w (Kd.C_of_reads (d := (0 : Int)) (h1 := fun _ => rfl) hr0) hc0 h).mono ?_
 rintro e w' ⟨rfl,hd⟩
 exact ⟨rfl,hd⟩

end Go.Proofs.Ytpgkpahhohfmhaa.P
