/- The walk of one Go function that the law reaches: it comes to what the Lean function of its name tells. -/
import Derived.Test.YtpgkpahhohfmhaaP0
import Derived.Test.YtpgkpahhohfmhaaPimplBaseOk
import Derived.Test.YtpgkpahhohfmhaaPimplOrdCompare
import Derived.Test.YtpgkpahhohfmhaaPimplOrdInBase
import Derived.Test.YtpgkpahhohfmhaaPimplOrdValid
import Derived.Test.YtpgkpahhohfmhaaPimplSlowValue
import Derived.Test.YtpgkpahhohfmhaaPlawsalive
import Derived.Test.YtpgkpahhohfmhaaPlawssameInts
import Derived.Test.YtpgkpahhohfmhaaPspecDrawOrdInBase
import Derived.Test.YtpgkpahhohfmhaaPspecOrdInBase
namespace Go.Proofs.Ytpgkpahhohfmhaa.P
open Go.RowKit Go.Proofs.YtpgkpahhohfmhaaW.PrintWords Go.Proofs.YtpgkpahhohfmhaaW.PrintLast Go.Proofs.YtpgkpahhohfmhaaW.PrintMore
attribute [local go_sem] max2_int min2_int max_two min_two max_three min_three max_four min_four   
set_option linter.unusedVariables false
set_option linter.unusedSimpArgs false

/-! ### laws_FnOrdInBase: function 3 -/
mutual
def laws_FnOrdInBase.j0 : Nat → List Int → List Int → Bool → Option (Bool)
 | 0,_,_,_ => none
 | k + 1,x0,x1,x19 => if x19 = true then (some true) else ((spec_DrawOrdInBase.f k x0).bind fun bt335 => ((impl_OrdInBase.f k bt335.1 bt335.2).bind fun t337 => ((spec_OrdInBase.f k bt335.1 bt335.2).bind fun t340 => ((laws_sameInts.f k t337 t340).bind fun t343 => (if t343 = true then (if (t337.length : Int) = 0 then ((laws_alive.f k).bind fun t344 => (some t344)) else ((spec_DrawOrdInBase.f k x1).bind fun bt345 => ((impl_OrdInBase.f k bt345.1 bt335.2).bind fun t347 => (if bt335.1 < bt345.1 then (laws_FnOrdInBase.j1 k bt335.1 bt335.2 t337 bt345.1 t347 (-1)) else (laws_FnOrdInBase.j1 k bt335.1 bt335.2 t337 bt345.1 t347 0))))) else (some false))))))
def laws_FnOrdInBase.j1 : Nat → Int → Int → List Int → Int → List Int → Int → Option (Bool)
 | 0,_,_,_,_,_,_ => none
 | k + 1,x5,x6,x7,x8,x10,x11 => if x5 > x8 then (laws_FnOrdInBase.j2 k x5 x6 x7 x10 1) else (laws_FnOrdInBase.j2 k x5 x6 x7 x10 x11)
def laws_FnOrdInBase.j2 : Nat → Int → Int → List Int → List Int → Int → Option (Bool)
 | 0,_,_,_,_,_ => none
 | k + 1,x5,x6,x7,x10,x11 => (impl_OrdValid.f k x7).bind fun t350 => (if t350 = true then ((impl_BaseOk.f k x7 x6).bind fun t351 => (if t351 = true then ((impl_SlowValue.f k x7 x6).bind fun t352 => (if t352 = x5 then (if (x10.length : Int) = 0 then (some true) else ((impl_OrdCompare.f k x7 x10).bind fun t353 => (some (t353 == x11)))) else (some false))) else (some false))) else (some false))
end
def laws_FnOrdInBase.f (k : Nat) (l0 : List Int) (l1 : List Int) : Option (Bool) := if (l0.length : Int) > 1048576 then (laws_FnOrdInBase.j0 k l0 l1 true) else (laws_FnOrdInBase.j0 k l0 l1 (decide ((l1.length : Int) > 1048576)))
theorem laws_FnOrdInBase.mono_l : ∀ k,(∀ y0 y1 y2,LeO (laws_FnOrdInBase.j0 k y0 y1 y2) (laws_FnOrdInBase.j0 (k + 1) y0 y1 y2)) ∧ (∀ y0 y1 y2 y3 y4 y5,LeO (laws_FnOrdInBase.j1 k y0 y1 y2 y3 y4 y5) (laws_FnOrdInBase.j1 (k + 1) y0 y1 y2 y3 y4 y5)) ∧ (∀ y0 y1 y2 y3 y4,LeO (laws_FnOrdInBase.j2 k y0 y1 y2 y3 y4) (laws_FnOrdInBase.j2 (k + 1) y0 y1 y2 y3 y4))
 | 0 => ⟨fun _ _ _ r h => by simp [laws_FnOrdInBase.j0] at h,fun _ _ _ _ _ _ r h => by simp [laws_FnOrdInBase.j1] at h,fun _ _ _ _ _ r h => by simp [laws_FnOrdInBase.j2] at h⟩
 | k + 1 => by
  obtain ⟨ih0,ih1,ih2⟩ := laws_FnOrdInBase.mono_l k
  refine ⟨?_,?_,?_⟩
  ·intro y0 y1 y2
   unfold laws_FnOrdInBase.j0
   repeat' first|(with_reducible first|exact ih0 _ _ _|exact ih1 _ _ _ _ _ _|exact impl_OrdInBase.mono _ _ _|exact laws_alive.mono _|exact laws_sameInts.mono _ _ _|exact spec_DrawOrdInBase.mono _ _|exact spec_OrdInBase.mono _ _ _|exact LeO.refl _|exact LeO.none _|refine LeO.ite ?_ ?_|refine LeO.bind ?_ (fun _ => ?_))|exact ih0 _ _ _|exact ih1 _ _ _ _ _ _|exact impl_OrdInBase.mono _ _ _|exact laws_alive.mono _|exact laws_sameInts.mono _ _ _|exact spec_DrawOrdInBase.mono _ _|exact spec_OrdInBase.mono _ _ _|exact LeO.none _|refine LeO.ite ?_ ?_|refine LeO.bind ?_ (fun _ => ?_)
  ·intro y0 y1 y2 y3 y4 y5
   unfold laws_FnOrdInBase.j1
   repeat' first|(with_reducible first|exact ih1 _ _ _ _ _ _|exact ih2 _ _ _ _ _|exact LeO.refl _|exact LeO.none _|refine LeO.ite ?_ ?_|refine LeO.bind ?_ (fun _ => ?_))|exact ih1 _ _ _ _ _ _|exact ih2 _ _ _ _ _|exact LeO.none _|refine LeO.ite ?_ ?_|refine LeO.bind ?_ (fun _ => ?_)
  ·intro y0 y1 y2 y3 y4
   unfold laws_FnOrdInBase.j2
   repeat' first|(with_reducible first|exact ih2 _ _ _ _ _|exact impl_BaseOk.mono _ _ _|exact impl_OrdCompare.mono _ _ _|exact impl_OrdValid.mono _ _|exact impl_SlowValue.mono _ _ _|exact LeO.refl _|exact LeO.none _|refine LeO.ite ?_ ?_|refine LeO.bind ?_ (fun _ => ?_))|exact ih2 _ _ _ _ _|exact impl_BaseOk.mono _ _ _|exact impl_OrdCompare.mono _ _ _|exact impl_OrdValid.mono _ _|exact impl_SlowValue.mono _ _ _|exact LeO.none _|refine LeO.ite ?_ ?_|refine LeO.bind ?_ (fun _ => ?_)
theorem laws_FnOrdInBase.mono : ∀ a0 a1 k,LeO (laws_FnOrdInBase.f k a0 a1) (laws_FnOrdInBase.f (k + 1) a0 a1) := by
 intro a0 a1 k
 obtain ⟨ih0,ih1,ih2⟩ := laws_FnOrdInBase.mono_l k
 unfold laws_FnOrdInBase.f
 repeat' first|(with_reducible first|exact ih0 _ _ _|exact ih1 _ _ _ _ _ _|exact ih2 _ _ _ _ _|exact LeO.refl _|exact LeO.none _|refine LeO.ite ?_ ?_|refine LeO.bind ?_ (fun _ => ?_))|exact ih0 _ _ _|exact ih1 _ _ _ _ _ _|exact ih2 _ _ _ _ _|exact LeO.none _|refine LeO.ite ?_ ?_|refine LeO.bind ?_ (fun _ => ?_)
set_option maxHeartbeats 8000000 in
set_option maxRecDepth 100000 in
theorem laws_FnOrdInBase.calls (k : Nat) (A0 : Option Addr) (c0 : Nat) (l0 : List Int) (A1 : Option Addr) (c1 : Nat) (l1 : List Int) (r : Bool) (w : World) (hr0 : Kd.C (Kd.int .u8) w A0 l0.length l0) (hc0 : l0.length ≤ c0) (hr1 : Kd.C (Kd.int .u8) w A1 l1.length l1) (hc1 : l1.length ≤ c1) (h : laws_FnOrdInBase.f k l0 l1 = some r) :
  Calls Try.prog 3 #[.slice A0 l0.length c0,.slice A1 l1.length c1] w fun e w' => e = .returned (.bool r) ∧ Below w.heap.size w w' := by
 have HR0 := Aside0.mk hr0
 have HC0 := Aside0.mk hc0
 clear hr0 hc0
 have HR1 := Aside0.mk hr1
 have HC1 := Aside0.mk hc1
 clear hr1 hc1
 have HB := Aside0.mk (Below.refl w.heap.size w)
 have H : (if (l0.length : Int) > 1048576 then (laws_FnOrdInBase.j0 k l0 l1 true) else (laws_FnOrdInBase.j0 k l0 l1 (decide ((l1.length : Int) > 1048576)))) = some r := h
 clear h
 have HC3 := Aside0.mk H
 clear H
 go_enter Try.func3,Try.ntmps3
 go_upto_region 1 with (fail)
 go_cut [19] (fun v19 wc => ∃ (kq : Nat) (x19_2 : Bool),v19 = .bool x19_2 ∧ Aside0 (laws_FnOrdInBase.j0 kq l0 l1 x19_2 = some r) ∧ Aside0 (kq ≤ k) ∧ Aside0 (Below w.heap.size w wc))
 case first =>
  have H := HC3.out
  clear HC3
  by_cases c4 : (l0.length : Int) > 1048576
  ·rw [if_pos c4] at H
   have c4b0 : decide (1048576 < (l0.length : Int)) = true := decide_eq_true c4
   have c4b1 : decide (1048576 < l0.length) = true := decide_eq_true (by omega)
   clear c4
   (first|rw [c4b0]|(simp only [i64_w,i32_w];rw [c4b0])|skip)
   have H' := Aside0.mk H
   clear H
   go_wp2
   go_meet
   case rel => exact ⟨_,(true),(by first|rfl|(simp;done)|(simp [*];done)),H',⟨by first|omega|exact Nat.le_refl _⟩,⟨bz⟩⟩
  ·rw [if_neg c4] at H
   have c4b0 : decide (1048576 < (l0.length : Int)) = false := decide_eq_false c4
   have c4b1 : decide (1048576 < l0.length) = false := decide_eq_false (by omega)
   clear c4
   (first|rw [c4b0]|(simp only [i64_w,i32_w];rw [c4b0])|skip)
   have H' := Aside0.mk H
   clear H
   go_wp2
   go_meet
   case rel => exact ⟨_,(decide ((l1.length : Int) > 1048576)),(by first|rfl|(simp;done)|(simp [*];done)),H',⟨by first|omega|exact Nat.le_refl _⟩,⟨bz⟩⟩
 case rest =>
  clear HC3
  try clear c1
  try clear p2
  try clear c3
  try clear c4
  try clear c4b0
  try clear c4b1
  obtain ⟨kq,x19_2,rfl,HA,HJ2,HB⟩ := hcut
  cases kq with
  | zero => exact absurd HA.out (by simp [laws_FnOrdInBase.j0])
  | succ kj2 =>
   have H := HA.out
   clear HA
   simp only [laws_FnOrdInBase.j0] at H
   by_cases c5 : x19_2 = true
   ·subst c5
    have H1 : (some true) = some r := by rw [if_pos rfl] at H;exact H
    clear H
    have H := H1
    clear H1
    obtain rfl := Option.some.inj H
    go_wp2
    go_ret
    exact ⟨by first|rfl|(simp [errW_none,errW_some] <;> rfl)|(simp [*,errW_none,errW_some] <;> rfl),bz⟩
   ·replace c5 := Bool.eq_false_iff.mpr c5
    subst c5
    have H1 : ((spec_DrawOrdInBase.f kj2 l0).bind fun bt335 => ((impl_OrdInBase.f kj2 bt335.1 bt335.2).bind fun t337 => ((spec_OrdInBase.f kj2 bt335.1 bt335.2).bind fun t340 => ((laws_sameInts.f kj2 t337 t340).bind fun t343 => (if t343 = true then (if (t337.length : Int) = 0 then ((laws_alive.f kj2).bind fun t344 => (some t344)) else ((spec_DrawOrdInBase.f kj2 l1).bind fun bt345 => ((impl_OrdInBase.f kj2 bt345.1 bt335.2).bind fun t347 => (if bt335.1 < bt345.1 then (laws_FnOrdInBase.j1 kj2 bt335.1 bt335.2 t337 bt345.1 t347 (-1)) else (laws_FnOrdInBase.j1 kj2 bt335.1 bt335.2 t337 bt345.1 t347 0))))) else (some false)))))) = some r := by rw [if_neg (show ¬ (false = true) by decide)] at H;exact H
    clear H
    have H := H1
    clear H1
    replace H := Option.bind_eq_some_iff.mp H
    obtain ⟨⟨t335,t336⟩,A60,H⟩ := H
    replace H : ((impl_OrdInBase.f kj2 t335 t336).bind fun t337 => ((spec_OrdInBase.f kj2 t335 t336).bind fun t340 => ((laws_sameInts.f kj2 t337 t340).bind fun t343 => (if t343 = true then (if (t337.length : Int) = 0 then ((laws_alive.f kj2).bind fun t344 => (some t344)) else ((spec_DrawOrdInBase.f kj2 l1).bind fun bt345 => ((impl_OrdInBase.f kj2 bt345.1 t336).bind fun t347 => (if t335 < bt345.1 then (laws_FnOrdInBase.j1 kj2 t335 t336 t337 bt345.1 t347 (-1)) else (laws_FnOrdInBase.j1 kj2 t335 t336 t337 bt345.1 t347 0))))) else (some false))))) = some r := H
    have A6 := Aside0.mk A60
    clear A60
    replace H := Option.bind_eq_some_iff.mp H
    obtain ⟨t337,A70,H⟩ := H
    replace H : ((spec_OrdInBase.f kj2 t335 t336).bind fun t340 => ((laws_sameInts.f kj2 t337 t340).bind fun t343 => (if t343 = true then (if (t337.length : Int) = 0 then ((laws_alive.f kj2).bind fun t344 => (some t344)) else ((spec_DrawOrdInBase.f kj2 l1).bind fun bt345 => ((impl_OrdInBase.f kj2 bt345.1 t336).bind fun t347 => (if t335 < bt345.1 then (laws_FnOrdInBase.j1 kj2 t335 t336 t337 bt345.1 t347 (-1)) else (laws_FnOrdInBase.j1 kj2 t335 t336 t337 bt345.1 t347 0))))) else (some false)))) = some r := H
    have A7 := Aside0.mk A70
    clear A70
    replace H := Option.bind_eq_some_iff.mp H
    obtain ⟨t340,A80,H⟩ := H
    replace H : ((laws_sameInts.f kj2 t337 t340).bind fun t343 => (if t343 = true then (if (t337.length : Int) = 0 then ((laws_alive.f kj2).bind fun t344 => (some t344)) else ((spec_DrawOrdInBase.f kj2 l1).bind fun bt345 => ((impl_OrdInBase.f kj2 bt345.1 t336).bind fun t347 => (if t335 < bt345.1 then (laws_FnOrdInBase.j1 kj2 t335 t336 t337 bt345.1 t347 (-1)) else (laws_FnOrdInBase.j1 kj2 t335 t336 t337 bt345.1 t347 0))))) else (some false))) = some r := H
    have A8 := Aside0.mk A80
    clear A80
    replace H := Option.bind_eq_some_iff.mp H
    obtain ⟨t343,A90,H⟩ := H
    replace H : (if t343 = true then (if (t337.length : Int) = 0 then ((laws_alive.f kj2).bind fun t344 => (some t344)) else ((spec_DrawOrdInBase.f kj2 l1).bind fun bt345 => ((impl_OrdInBase.f kj2 bt345.1 t336).bind fun t347 => (if t335 < bt345.1 then (laws_FnOrdInBase.j1 kj2 t335 t336 t337 bt345.1 t347 (-1)) else (laws_FnOrdInBase.j1 kj2 t335 t336 t337 bt345.1 t347 0))))) else (some false)) = some r := H
    have A9 := Aside0.mk A90
    clear A90
    by_cases c10 : t343 = true
    ·subst c10
     have H1 : (if (t337.length : Int) = 0 then ((laws_alive.f kj2).bind fun t344 => (some t344)) else ((spec_DrawOrdInBase.f kj2 l1).bind fun bt345 => ((impl_OrdInBase.f kj2 bt345.1 t336).bind fun t347 => (if t335 < bt345.1 then (laws_FnOrdInBase.j1 kj2 t335 t336 t337 bt345.1 t347 (-1)) else (laws_FnOrdInBase.j1 kj2 t335 t336 t337 bt345.1 t347 0))))) = some r := by rw [if_pos rfl] at H;exact H
     clear H
     have H := H1
     clear H1
     by_cases c11 : (t337.length : Int) = 0
     ·rw [if_pos c11] at H
      have c11b0 : ((t337.length : Int) == 0) = true := beq_iff_eq.mpr c11
      have c11b1 : ((t337.length : Int) != 0) = false := bne_eq_false_iff_eq.mpr c11
      clear c11
      replace H := Option.bind_eq_some_iff.mp H
      obtain ⟨t344,A120,H⟩ := H
      replace H : (some t344) = some r := H
      have A12 := Aside0.mk A120
      clear A120
      obtain rfl := Option.some.inj H
      go_wp2_with (first|((with_reducible refine gate_callee (f := 11) rfl ?_);refine goesL_ (some 22) rfl rfl Try.func11 (by kernel_rfl) rfl #[.slice A0 l0.length c0] rfl az ?_;(with_reducible refine (spec_DrawOrdInBase.calls kj2 _ _ l0 t335 t336 _ ?side1 ?side2 A6.out).mono ?_);(case side1 => exact Kd.Cz (Kd.C_below HR0.out HB.out));(case side2 => exact HC0.out);rintro e w13 ⟨rfl,hb⟩;refine ⟨_,rfl,?_⟩;have n0_ := Aside0.mk (below_step bz hb);clear HB;have HB := n0_;clear n0_;(try clear hb);(try clear hb2);(try clear hk);(try clear hi))|((with_reducible refine gate_callee (f := 12) rfl ?_);refine goesL_ (some 27) rfl rfl Try.func12 (by kernel_rfl) rfl #[.int .i64 t335,.int .i64 t336] rfl az ?_;(with_reducible refine (impl_OrdInBase.calls kj2 t335 t336 t337 _ A7.out).mono ?_);rintro e w14 ⟨v338,rfl,ho0,hb⟩;refine ⟨_,rfl,?_⟩;have n0_ := Aside0.mk (Kd.R_lower ho0 (below_size bz));have n1_ := Aside0.mk (below_step bz hb);clear HB;have HO339 := n0_;have HB := n1_;clear n0_ n1_;(try clear hb);(try clear hb2);(try clear hk);(try clear hi);(try clear ho0))|((with_reducible refine gate_callee (f := 14) rfl ?_);refine goesL_ (some 31) rfl rfl Try.func14 (by kernel_rfl) rfl #[.int .i64 t335,.int .i64 t336] rfl az ?_;(with_reducible refine (spec_OrdInBase.calls kj2 t335 t336 t340 _ A8.out).mono ?_);rintro e w15 ⟨v341,rfl,ho0,hb⟩;refine ⟨_,rfl,?_⟩;have n0_ := Aside0.mk (Kd.R_elder' (Kd.Rz HO339.out) (Kd.R_base ho0) hb);have n1_ := Aside0.mk (Kd.R_lower (Kd.R_new' ho0 (Kd.R_lt (Kd.Rz HO339.out))) (below_size bz));have n2_ := Aside0.mk (below_step bz hb);clear HO339;clear HB;have HO339 := n0_;have HO342 := n1_;have HB := n2_;clear n0_ n1_ n2_;(try clear hb);(try clear hb2);(try clear hk);(try clear hi);(try clear ho0);obtain ⟨Ao16,co16,eo16⟩ := Kd.R_slice HO339.out;subst eo16;obtain ⟨Ao17,co17,eo17⟩ := Kd.R_slice HO342.out;subst eo17)|((with_reducible refine gate_callee (f := 13) rfl ?_);refine goesL_ (some 32) rfl rfl Try.func13 (by kernel_rfl) rfl #[.slice Ao16 t337.length co16,.slice Ao17 t340.length co17] rfl az ?_;(with_reducible refine (laws_sameInts.calls kj2 _ _ t337 _ _ t340 true _ ?side1 ?side2 ?side3 ?side4 A9.out).mono ?_);(case side1 => exact Kd.Cz (Kd.R_reads' HO339.out).2.2);(case side2 => exact (Kd.R_reads' HO339.out).2.1);(case side3 => exact Kd.Cz (Kd.R_reads' HO342.out).2.2);(case side4 => exact (Kd.R_reads' HO342.out).2.1);rintro e w' ⟨rfl,⟨nd,rfl⟩⟩;refine ⟨_,rfl,?_⟩)|((with_reducible refine gate_callee (f := 15) rfl ?_);refine goesL_ (some 37) rfl rfl Try.func15 (by kernel_rfl) rfl #[] rfl az ?_;(with_reducible refine (laws_alive.calls kj2  t344 _ A12.out).mono ?_);rintro e w18 ⟨rfl,hb⟩;refine ⟨_,rfl,?_⟩;have n0_ := Aside0.mk (Kd.R_below (Kd.Rz HO339.out) hb);have n1_ := Aside0.mk (Kd.R_below (Kd.Rz HO342.out) hb);have n2_ := Aside0.mk (below_step bz hb);clear HO339;clear HO342;clear HB;have HO339 := n0_;have HO342 := n1_;have HB := n2_;clear n0_ n1_ n2_;(try clear hb);(try clear hb2);(try clear hk);(try clear hi)))
      go_ret
      exact ⟨by first|rfl|(simp [errW_none,errW_some] <;> rfl)|(simp [*,errW_none,errW_some] <;> rfl),bz⟩
     ·rw [if_neg c11] at H
      have c11b0 : ((t337.length : Int) == 0) = false := beq_eq_false_iff_ne.mpr c11
      have c11b1 : ((t337.length : Int) != 0) = true := bne_iff_ne.mpr c11
      have c11b2 : ¬ (t337 = []) := fun h_ => c11 (by rw [h_];rfl)
      replace H := Option.bind_eq_some_iff.mp H
      obtain ⟨⟨t345,t346⟩,A190,H⟩ := H
      replace H : ((impl_OrdInBase.f kj2 t345 t336).bind fun t347 => (if t335 < t345 then (laws_FnOrdInBase.j1 kj2 t335 t336 t337 t345 t347 (-1)) else (laws_FnOrdInBase.j1 kj2 t335 t336 t337 t345 t347 0))) = some r := H
      have A19 := Aside0.mk A190
      clear A190
      replace H := Option.bind_eq_some_iff.mp H
      obtain ⟨t347,A200,H⟩ := H
      replace H : (if t335 < t345 then (laws_FnOrdInBase.j1 kj2 t335 t336 t337 t345 t347 (-1)) else (laws_FnOrdInBase.j1 kj2 t335 t336 t337 t345 t347 0)) = some r := H
      have A20 := Aside0.mk A200
      clear A200
      have HC21 := Aside0.mk H
      clear H
      go_upto_if 48 with (first|((with_reducible refine gate_callee (f := 11) rfl ?_);refine goesL_ (some 22) rfl rfl Try.func11 (by kernel_rfl) rfl #[.slice A0 l0.length c0] rfl az ?_;(with_reducible refine (spec_DrawOrdInBase.calls kj2 _ _ l0 t335 t336 _ ?side1 ?side2 A6.out).mono ?_);(case side1 => exact Kd.Cz (Kd.C_below HR0.out HB.out));(case side2 => exact HC0.out);rintro e w22 ⟨rfl,hb⟩;refine ⟨_,rfl,?_⟩;have n0_ := Aside0.mk (below_step bz hb);clear HB;have HB := n0_;clear n0_;(try clear hb);(try clear hb2);(try clear hk);(try clear hi))|((with_reducible refine gate_callee (f := 12) rfl ?_);refine goesL_ (some 27) rfl rfl Try.func12 (by kernel_rfl) rfl #[.int .i64 t335,.int .i64 t336] rfl az ?_;(with_reducible refine (impl_OrdInBase.calls kj2 t335 t336 t337 _ A7.out).mono ?_);rintro e w23 ⟨v338,rfl,ho0,hb⟩;refine ⟨_,rfl,?_⟩;have n0_ := Aside0.mk (Kd.R_lower ho0 (below_size bz));have n1_ := Aside0.mk (below_step bz hb);clear HB;have HO339 := n0_;have HB := n1_;clear n0_ n1_;(try clear hb);(try clear hb2);(try clear hk);(try clear hi);(try clear ho0))|((with_reducible refine gate_callee (f := 14) rfl ?_);refine goesL_ (some 31) rfl rfl Try.func14 (by kernel_rfl) rfl #[.int .i64 t335,.int .i64 t336] rfl az ?_;(with_reducible refine (spec_OrdInBase.calls kj2 t335 t336 t340 _ A8.out).mono ?_);rintro e w24 ⟨v341,rfl,ho0,hb⟩;refine ⟨_,rfl,?_⟩;have n0_ := Aside0.mk (Kd.R_elder' (Kd.Rz HO339.out) (Kd.R_base ho0) hb);have n1_ := Aside0.mk (Kd.R_lower (Kd.R_new' ho0 (Kd.R_lt (Kd.Rz HO339.out))) (below_size bz));have n2_ := Aside0.mk (below_step bz hb);clear HO339;clear HB;have HO339 := n0_;have HO342 := n1_;have HB := n2_;clear n0_ n1_ n2_;(try clear hb);(try clear hb2);(try clear hk);(try clear hi);(try clear ho0);obtain ⟨Ao25,co25,eo25⟩ := Kd.R_slice HO339.out;subst eo25;obtain ⟨Ao26,co26,eo26⟩ := Kd.R_slice HO342.out;subst eo26)|((with_reducible refine gate_callee (f := 13) rfl ?_);refine goesL_ (some 32) rfl rfl Try.func13 (by kernel_rfl) rfl #[.slice Ao25 t337.length co25,.slice Ao26 t340.length co26] rfl az ?_;(with_reducible refine (laws_sameInts.calls kj2 _ _ t337 _ _ t340 true _ ?side1 ?side2 ?side3 ?side4 A9.out).mono ?_);(case side1 => exact Kd.Cz (Kd.R_reads' HO339.out).2.2);(case side2 => exact (Kd.R_reads' HO339.out).2.1);(case side3 => exact Kd.Cz (Kd.R_reads' HO342.out).2.2);(case side4 => exact (Kd.R_reads' HO342.out).2.1);rintro e w' ⟨rfl,⟨nd,rfl⟩⟩;refine ⟨_,rfl,?_⟩)|((with_reducible refine gate_callee (f := 11) rfl ?_);refine goesL_ (some 40) rfl rfl Try.func11 (by kernel_rfl) rfl #[.slice A1 l1.length c1] rfl az ?_;(with_reducible refine (spec_DrawOrdInBase.calls kj2 _ _ l1 t345 t346 _ ?side1 ?side2 A19.out).mono ?_);(case side1 => repeat (first|exact (Kd.C_below HR1.out bz)|(with_reducible refine Kd.C_alloc ?_ _)|(with_reducible refine Kd.C_drewN ?_ _)|(with_reducible refine Kd.C_drew ?_)));(case side2 => exact HC1.out);rintro e w27 ⟨rfl,hb⟩;refine ⟨_,rfl,?_⟩;have n0_ := Aside0.mk (Kd.R_below (Kd.Rz HO339.out) hb);have n1_ := Aside0.mk (Kd.R_below (Kd.Rz HO342.out) hb);have n2_ := Aside0.mk (below_step bz hb);clear HO339;clear HO342;clear HB;have HO339 := n0_;have HO342 := n1_;have HB := n2_;clear n0_ n1_ n2_;(try clear hb);(try clear hb2);(try clear hk);(try clear hi))|((with_reducible refine gate_callee (f := 12) rfl ?_);refine goesL_ (some 45) rfl rfl Try.func12 (by kernel_rfl) rfl #[.int .i64 t345,.int .i64 t336] rfl az ?_;(with_reducible refine (impl_OrdInBase.calls kj2 t345 t336 t347 _ A20.out).mono ?_);rintro e w28 ⟨v348,rfl,ho0,hb⟩;refine ⟨_,rfl,?_⟩;have n0_ := Aside0.mk (Kd.R_elder' (Kd.Rz HO339.out) (Kd.R_base ho0) hb);have n1_ := Aside0.mk (Kd.R_elder' (Kd.Rz HO342.out) (Kd.R_base ho0) hb);have n2_ := Aside0.mk (Kd.R_lower (Kd.R_new' (Kd.R_new' ho0 (Kd.R_lt (Kd.Rz HO339.out))) (Kd.R_lt (Kd.Rz HO342.out))) (below_size bz));have n3_ := Aside0.mk (below_step bz hb);clear HO339;clear HO342;clear HB;have HO339 := n0_;have HO342 := n1_;have HO349 := n2_;have HB := n3_;clear n0_ n1_ n2_ n3_;(try clear hb);(try clear hb2);(try clear hk);(try clear hi);(try clear ho0)))
      (try simp only [Act.put,List.setIfInBounds_toArray,List.set_cons_zero,List.set_cons_succ])
      go_cut [11] (fun v11 wc => ∃ (kq : Nat) (x11_20 : Int),v11 = .int .i64 x11_20 ∧ Aside0 (laws_FnOrdInBase.j1 kq t335 t336 t337 t345 t347 x11_20 = some r) ∧ Aside0 (kq ≤ kj2) ∧ Aside0 (Kd.R (Kd.int .i64) 3 wc w.heap.size (fun k_ => some k_ ≠ (v348 : Value).ownBlock) (.slice Ao25 t337.length co25) t337) ∧ Aside0 (Kd.R (Kd.int .i64) 3 wc w.heap.size (fun k_ => some k_ ≠ ((.slice Ao25 t337.length co25) : Value).ownBlock) v348 t347) ∧ Aside0 (Below w.heap.size w wc))
      case first =>
       have H := HC21.out
       clear HC21
       by_cases c29 : t335 < t345
       ·rw [if_pos c29] at H
        have c29b0 : decide (t335 < t345) = true := decide_eq_true c29
        clear c29
        (first|rw [c29b0]|(simp only [i64_w,i32_w];rw [c29b0])|skip)
        have H' := Aside0.mk H
        clear H
        go_wp2
        go_meet
        case rel => exact ⟨_,((-1)),(by first|rfl|(simp;done)|(simp [*];done)),H',⟨by have := HJ2.out;first|omega|exact Nat.le_refl _⟩,⟨by (with_reducible repeat (first|apply Kd.R_alloc|apply Kd.R_drewN|apply Kd.R_drew));exact Kd.R_mono HO339.out (fun _ hk => hk.2)⟩,⟨by (with_reducible repeat (first|apply Kd.R_alloc|apply Kd.R_drewN|apply Kd.R_drew));exact Kd.R_mono HO349.out (fun _ hk => hk.1.2)⟩,⟨bz⟩⟩
       ·rw [if_neg c29] at H
        have c29b0 : decide (t335 < t345) = false := decide_eq_false c29
        clear c29
        (first|rw [c29b0]|(simp only [i64_w,i32_w];rw [c29b0])|skip)
        have H' := Aside0.mk H
        clear H
        go_wp2
        go_meet
        case rel => exact ⟨_,(0),(by first|rfl|(simp;done)|(simp [*];done)),H',⟨by have := HJ2.out;first|omega|exact Nat.le_refl _⟩,⟨by (with_reducible repeat (first|apply Kd.R_alloc|apply Kd.R_drewN|apply Kd.R_drew));exact Kd.R_mono HO339.out (fun _ hk => hk.2)⟩,⟨by (with_reducible repeat (first|apply Kd.R_alloc|apply Kd.R_drewN|apply Kd.R_drew));exact Kd.R_mono HO349.out (fun _ hk => hk.1.2)⟩,⟨bz⟩⟩
      case rest =>
       clear HC21
       try clear c1
       try clear c2
       try clear p2
       try clear c3
       try clear c4
       try clear c4b0
       try clear c4b1
       try clear c5
       try clear c10
       try clear c11
       try clear c11b0
       try clear c11b1
       try clear c11b2
       try clear c12
       try clear c13
       try clear c14
       try clear c15
       try clear c29
       try clear c29b0
       try clear p2
       obtain ⟨kq,x11_20,rfl,HA,HJ20,HO_7,HO_10,HB⟩ := hcut
       cases kq with
       | zero => exact absurd HA.out (by simp [laws_FnOrdInBase.j1])
       | succ kj20 =>
        have H := HA.out
        clear HA
        simp only [laws_FnOrdInBase.j1] at H
        have HC30 := Aside0.mk H
        clear H
        go_upto_if 51 with (fail)
        go_cut [11] (fun v11 wc => ∃ (kq : Nat) (x11_29 : Int),v11 = .int .i64 x11_29 ∧ Aside0 (laws_FnOrdInBase.j2 kq t335 t336 t337 t347 x11_29 = some r) ∧ Aside0 (kq ≤ kj20) ∧ Aside0 (Kd.R (Kd.int .i64) 3 wc w.heap.size (fun k_ => some k_ ≠ (v348 : Value).ownBlock) (.slice Ao25 t337.length co25) t337) ∧ Aside0 (Kd.R (Kd.int .i64) 3 wc w.heap.size (fun k_ => some k_ ≠ ((.slice Ao25 t337.length co25) : Value).ownBlock) v348 t347) ∧ Aside0 (Below w.heap.size w wc))
        case first =>
         have H := HC30.out
         clear HC30
         by_cases c31 : t335 > t345
         ·rw [if_pos c31] at H
          have c31b0 : decide (t345 < t335) = true := decide_eq_true c31
          clear c31
          (first|rw [c31b0]|(simp only [i64_w,i32_w];rw [c31b0])|skip)
          have H' := Aside0.mk H
          clear H
          go_wp2
          go_meet
          case rel => exact ⟨_,(1),(by first|rfl|(simp;done)|(simp [*];done)),H',⟨by have := HJ2.out;have := HJ20.out;first|omega|exact Nat.le_refl _⟩,⟨by (with_reducible repeat (first|apply Kd.R_alloc|apply Kd.R_drewN|apply Kd.R_drew));exact HO_7.out⟩,⟨by (with_reducible repeat (first|apply Kd.R_alloc|apply Kd.R_drewN|apply Kd.R_drew));exact HO_10.out⟩,⟨bz⟩⟩
         ·rw [if_neg c31] at H
          have c31b0 : decide (t345 < t335) = false := decide_eq_false c31
          clear c31
          (first|rw [c31b0]|(simp only [i64_w,i32_w];rw [c31b0])|skip)
          have H' := Aside0.mk H
          clear H
          go_wp2
          go_meet
          case rel => exact ⟨_,(x11_20),(by first|rfl|(simp;done)|(simp [*];done)),H',⟨by have := HJ2.out;have := HJ20.out;first|omega|exact Nat.le_refl _⟩,⟨by (with_reducible repeat (first|apply Kd.R_alloc|apply Kd.R_drewN|apply Kd.R_drew));exact HO_7.out⟩,⟨by (with_reducible repeat (first|apply Kd.R_alloc|apply Kd.R_drewN|apply Kd.R_drew));exact HO_10.out⟩,⟨bz⟩⟩
        case rest =>
         clear HC30
         try clear c1
         try clear c2
         try clear p2
         try clear c3
         try clear c4
         try clear c4b0
         try clear c4b1
         try clear c5
         try clear c10
         try clear c11
         try clear c11b0
         try clear c11b1
         try clear c11b2
         try clear c12
         try clear c13
         try clear c14
         try clear c15
         try clear c29
         try clear c29b0
         try clear c31
         try clear c31b0
         try clear p2
         obtain ⟨kq,x11_29,rfl,HA,HJ29,HO_7,HO_10,HB⟩ := hcut
         cases kq with
         | zero => exact absurd HA.out (by simp [laws_FnOrdInBase.j2])
         | succ kj29 =>
          have H := HA.out
          clear HA
          simp only [laws_FnOrdInBase.j2] at H
          replace H := Option.bind_eq_some_iff.mp H
          obtain ⟨t350,A320,H⟩ := H
          replace H : (if t350 = true then ((impl_BaseOk.f kj29 t337 t336).bind fun t351 => (if t351 = true then ((impl_SlowValue.f kj29 t337 t336).bind fun t352 => (if t352 = t335 then (if (t347.length : Int) = 0 then (some true) else ((impl_OrdCompare.f kj29 t337 t347).bind fun t353 => (some (t353 == x11_29)))) else (some false))) else (some false))) else (some false)) = some r := H
          have A32 := Aside0.mk A320
          clear A320
          by_cases c33 : t350 = true
          ·subst c33
           have H1 : ((impl_BaseOk.f kj29 t337 t336).bind fun t351 => (if t351 = true then ((impl_SlowValue.f kj29 t337 t336).bind fun t352 => (if t352 = t335 then (if (t347.length : Int) = 0 then (some true) else ((impl_OrdCompare.f kj29 t337 t347).bind fun t353 => (some (t353 == x11_29)))) else (some false))) else (some false))) = some r := by rw [if_pos rfl] at H;exact H
           clear H
           have H := H1
           clear H1
           replace H := Option.bind_eq_some_iff.mp H
           obtain ⟨t351,A340,H⟩ := H
           replace H : (if t351 = true then ((impl_SlowValue.f kj29 t337 t336).bind fun t352 => (if t352 = t335 then (if (t347.length : Int) = 0 then (some true) else ((impl_OrdCompare.f kj29 t337 t347).bind fun t353 => (some (t353 == x11_29)))) else (some false))) else (some false)) = some r := H
           have A34 := Aside0.mk A340
           clear A340
           by_cases c35 : t351 = true
           ·subst c35
            have H1 : ((impl_SlowValue.f kj29 t337 t336).bind fun t352 => (if t352 = t335 then (if (t347.length : Int) = 0 then (some true) else ((impl_OrdCompare.f kj29 t337 t347).bind fun t353 => (some (t353 == x11_29)))) else (some false))) = some r := by rw [if_pos rfl] at H;exact H
            clear H
            have H := H1
            clear H1
            replace H := Option.bind_eq_some_iff.mp H
            obtain ⟨t352,A360,H⟩ := H
            replace H : (if t352 = t335 then (if (t347.length : Int) = 0 then (some true) else ((impl_OrdCompare.f kj29 t337 t347).bind fun t353 => (some (t353 == x11_29)))) else (some false)) = some r := H
            have A36 := Aside0.mk A360
            clear A360
            by_cases c37 : t352 = t335
            ·rw [if_pos c37] at H
             have c37b0 : (t352 == t335) = true := beq_iff_eq.mpr c37
             have c37b1 : (t352 != t335) = false := bne_eq_false_iff_eq.mpr c37
             clear c37
             by_cases c38 : (t347.length : Int) = 0
             ·rw [if_pos c38] at H
              have c38b0 : ((t347.length : Int) == 0) = true := beq_iff_eq.mpr c38
              have c38b1 : ((t347.length : Int) != 0) = false := bne_eq_false_iff_eq.mpr c38
              clear c38
              obtain rfl := Option.some.inj H
              go_wp2_with (first|((with_reducible refine gate_callee (f := 16) rfl ?_);refine goesL_ (some 53) rfl rfl Try.func16 (by kernel_rfl) rfl #[.slice Ao25 t337.length co25] rfl az ?_;(with_reducible refine (impl_OrdValid.calls kj29 _ _ t337 true _ ?side1 ?side2 A32.out).mono ?_);(case side1 => exact Kd.Cz (Kd.R_reads' HO_7.out).2.2);(case side2 => exact (Kd.R_reads' HO_7.out).2.1);rintro e w39 ⟨rfl,hb⟩;refine ⟨_,rfl,?_⟩;have n0_ := Aside0.mk (Kd.R_below (Kd.Rz HO_7.out) hb);have n1_ := Aside0.mk (Kd.R_below (Kd.Rz HO_10.out) hb);have n2_ := Aside0.mk (below_step bz hb);clear HO_7;clear HO_10;clear HB;have HO_7 := n0_;have HO_10 := n1_;have HB := n2_;clear n0_ n1_ n2_;(try clear hb);(try clear hb2);(try clear hk);(try clear hi))|(go_at_call 17;(with_reducible refine (impl_BaseOk.calls kj29 _ _ t337 t336 true _ ?side1 ?side2 A34.out).mono ?_);(case side1 => exact Kd.Cz (Kd.R_reads' HO_7.out).2.2);(case side2 => exact (Kd.R_reads' HO_7.out).2.1);rintro e w40 ⟨rfl,hb⟩;have n0_ := Aside0.mk (Kd.R_below (Kd.Rz HO_7.out) hb);have n1_ := Aside0.mk (Kd.R_below (Kd.Rz HO_10.out) hb);have n2_ := Aside0.mk (below_step bz hb);clear HO_7;clear HO_10;clear HB;have HO_7 := n0_;have HO_10 := n1_;have HB := n2_;clear n0_ n1_ n2_;(try clear hb);(try clear hb2);(try clear hk);(try clear hi))|(go_at_call 18;(with_reducible refine (impl_SlowValue.calls kj29 _ _ t337 t336 t352 _ ?side1 ?side2 A36.out).mono ?_);(case side1 => exact Kd.Cz (Kd.R_reads' HO_7.out).2.2);(case side2 => exact (Kd.R_reads' HO_7.out).2.1);rintro e w41 ⟨rfl,hb⟩;have n0_ := Aside0.mk (Kd.R_below (Kd.Rz HO_7.out) hb);have n1_ := Aside0.mk (Kd.R_below (Kd.Rz HO_10.out) hb);have n2_ := Aside0.mk (below_step bz hb);clear HO_7;clear HO_10;clear HB;have HO_7 := n0_;have HO_10 := n1_;have HB := n2_;clear n0_ n1_ n2_;(try clear hb);(try clear hb2);(try clear hk);(try clear hi);obtain ⟨Ao42,co42,eo42⟩ := Kd.R_slice HO_10.out;subst eo42))
              go_ret
              exact ⟨by first|rfl|(simp [errW_none,errW_some] <;> rfl)|(simp [*,errW_none,errW_some] <;> rfl),bz⟩
             ·rw [if_neg c38] at H
              have c38b0 : ((t347.length : Int) == 0) = false := beq_eq_false_iff_ne.mpr c38
              have c38b1 : ((t347.length : Int) != 0) = true := bne_iff_ne.mpr c38
              have c38b2 : ¬ (t347 = []) := fun h_ => c38 (by rw [h_];rfl)
              replace H := Option.bind_eq_some_iff.mp H
              obtain ⟨t353,A430,H⟩ := H
              replace H : (some (t353 == x11_29)) = some r := H
              have A43 := Aside0.mk A430
              clear A430
              obtain rfl := Option.some.inj H
              go_wp2_with (first|((with_reducible refine gate_callee (f := 16) rfl ?_);refine goesL_ (some 53) rfl rfl Try.func16 (by kernel_rfl) rfl #[.slice Ao25 t337.length co25] rfl az ?_;(with_reducible refine (impl_OrdValid.calls kj29 _ _ t337 true _ ?side1 ?side2 A32.out).mono ?_);(case side1 => exact Kd.Cz (Kd.R_reads' HO_7.out).2.2);(case side2 => exact (Kd.R_reads' HO_7.out).2.1);rintro e w44 ⟨rfl,hb⟩;refine ⟨_,rfl,?_⟩;have n0_ := Aside0.mk (Kd.R_below (Kd.Rz HO_7.out) hb);have n1_ := Aside0.mk (Kd.R_below (Kd.Rz HO_10.out) hb);have n2_ := Aside0.mk (below_step bz hb);clear HO_7;clear HO_10;clear HB;have HO_7 := n0_;have HO_10 := n1_;have HB := n2_;clear n0_ n1_ n2_;(try clear hb);(try clear hb2);(try clear hk);(try clear hi))|(go_at_call 17;(with_reducible refine (impl_BaseOk.calls kj29 _ _ t337 t336 true _ ?side1 ?side2 A34.out).mono ?_);(case side1 => exact Kd.Cz (Kd.R_reads' HO_7.out).2.2);(case side2 => exact (Kd.R_reads' HO_7.out).2.1);rintro e w45 ⟨rfl,hb⟩;have n0_ := Aside0.mk (Kd.R_below (Kd.Rz HO_7.out) hb);have n1_ := Aside0.mk (Kd.R_below (Kd.Rz HO_10.out) hb);have n2_ := Aside0.mk (below_step bz hb);clear HO_7;clear HO_10;clear HB;have HO_7 := n0_;have HO_10 := n1_;have HB := n2_;clear n0_ n1_ n2_;(try clear hb);(try clear hb2);(try clear hk);(try clear hi))|(go_at_call 18;(with_reducible refine (impl_SlowValue.calls kj29 _ _ t337 t336 t352 _ ?side1 ?side2 A36.out).mono ?_);(case side1 => exact Kd.Cz (Kd.R_reads' HO_7.out).2.2);(case side2 => exact (Kd.R_reads' HO_7.out).2.1);rintro e w46 ⟨rfl,hb⟩;have n0_ := Aside0.mk (Kd.R_below (Kd.Rz HO_7.out) hb);have n1_ := Aside0.mk (Kd.R_below (Kd.Rz HO_10.out) hb);have n2_ := Aside0.mk (below_step bz hb);clear HO_7;clear HO_10;clear HB;have HO_7 := n0_;have HO_10 := n1_;have HB := n2_;clear n0_ n1_ n2_;(try clear hb);(try clear hb2);(try clear hk);(try clear hi);obtain ⟨Ao47,co47,eo47⟩ := Kd.R_slice HO_10.out;subst eo47)|(go_at_call 19;(with_reducible refine (impl_OrdCompare.calls kj29 _ _ t337 _ _ t347 t353 _ ?side1 ?side2 ?side3 ?side4 A43.out).mono ?_);(case side1 => exact Kd.Cz (Kd.R_reads' HO_7.out).2.2);(case side2 => exact (Kd.R_reads' HO_7.out).2.1);(case side3 => exact Kd.Cz (Kd.R_reads' HO_10.out).2.2);(case side4 => exact (Kd.R_reads' HO_10.out).2.1);rintro e w48 ⟨rfl,hb⟩;have n0_ := Aside0.mk (Kd.R_below (Kd.Rz HO_7.out) hb);have n1_ := Aside0.mk (Kd.R_below (Kd.Rz HO_10.out) hb);have n2_ := Aside0.mk (below_step bz hb);clear HO_7;clear HO_10;clear HB;have HO_7 := n0_;have HO_10 := n1_;have HB := n2_;clear n0_ n1_ n2_;(try clear hb);(try clear hb2);(try clear hk);(try clear hi)))
              go_ret
              exact ⟨by first|rfl|(simp [errW_none,errW_some] <;> rfl)|(simp [*,errW_none,errW_some] <;> rfl),bz⟩
            ·rw [if_neg c37] at H
             have c37b0 : (t352 == t335) = false := beq_eq_false_iff_ne.mpr c37
             have c37b1 : (t352 != t335) = true := bne_iff_ne.mpr c37
             obtain rfl := Option.some.inj H
             go_wp2_with (first|((with_reducible refine gate_callee (f := 16) rfl ?_);refine goesL_ (some 53) rfl rfl Try.func16 (by kernel_rfl) rfl #[.slice Ao25 t337.length co25] rfl az ?_;(with_reducible refine (impl_OrdValid.calls kj29 _ _ t337 true _ ?side1 ?side2 A32.out).mono ?_);(case side1 => exact Kd.Cz (Kd.R_reads' HO_7.out).2.2);(case side2 => exact (Kd.R_reads' HO_7.out).2.1);rintro e w49 ⟨rfl,hb⟩;refine ⟨_,rfl,?_⟩;have n0_ := Aside0.mk (Kd.R_below (Kd.Rz HO_7.out) hb);have n1_ := Aside0.mk (Kd.R_below (Kd.Rz HO_10.out) hb);have n2_ := Aside0.mk (below_step bz hb);clear HO_7;clear HO_10;clear HB;have HO_7 := n0_;have HO_10 := n1_;have HB := n2_;clear n0_ n1_ n2_;(try clear hb);(try clear hb2);(try clear hk);(try clear hi))|(go_at_call 17;(with_reducible refine (impl_BaseOk.calls kj29 _ _ t337 t336 true _ ?side1 ?side2 A34.out).mono ?_);(case side1 => exact Kd.Cz (Kd.R_reads' HO_7.out).2.2);(case side2 => exact (Kd.R_reads' HO_7.out).2.1);rintro e w50 ⟨rfl,hb⟩;have n0_ := Aside0.mk (Kd.R_below (Kd.Rz HO_7.out) hb);have n1_ := Aside0.mk (Kd.R_below (Kd.Rz HO_10.out) hb);have n2_ := Aside0.mk (below_step bz hb);clear HO_7;clear HO_10;clear HB;have HO_7 := n0_;have HO_10 := n1_;have HB := n2_;clear n0_ n1_ n2_;(try clear hb);(try clear hb2);(try clear hk);(try clear hi))|(go_at_call 18;(with_reducible refine (impl_SlowValue.calls kj29 _ _ t337 t336 t352 _ ?side1 ?side2 A36.out).mono ?_);(case side1 => exact Kd.Cz (Kd.R_reads' HO_7.out).2.2);(case side2 => exact (Kd.R_reads' HO_7.out).2.1);rintro e w51 ⟨rfl,hb⟩;have n0_ := Aside0.mk (Kd.R_below (Kd.Rz HO_7.out) hb);have n1_ := Aside0.mk (Kd.R_below (Kd.Rz HO_10.out) hb);have n2_ := Aside0.mk (below_step bz hb);clear HO_7;clear HO_10;clear HB;have HO_7 := n0_;have HO_10 := n1_;have HB := n2_;clear n0_ n1_ n2_;(try clear hb);(try clear hb2);(try clear hk);(try clear hi)))
             go_ret
             exact ⟨by first|rfl|(simp [errW_none,errW_some] <;> rfl)|(simp [*,errW_none,errW_some] <;> rfl),bz⟩
           ·replace c35 := Bool.eq_false_iff.mpr c35
            subst c35
            have H1 : (some false) = some r := by rw [if_neg (show ¬ (false = true) by decide)] at H;exact H
            clear H
            have H := H1
            clear H1
            obtain rfl := Option.some.inj H
            go_wp2_with (first|((with_reducible refine gate_callee (f := 16) rfl ?_);refine goesL_ (some 53) rfl rfl Try.func16 (by kernel_rfl) rfl #[.slice Ao25 t337.length co25] rfl az ?_;(with_reducible refine (impl_OrdValid.calls kj29 _ _ t337 true _ ?side1 ?side2 A32.out).mono ?_);(case side1 => exact Kd.Cz (Kd.R_reads' HO_7.out).2.2);(case side2 => exact (Kd.R_reads' HO_7.out).2.1);rintro e w52 ⟨rfl,hb⟩;refine ⟨_,rfl,?_⟩;have n0_ := Aside0.mk (Kd.R_below (Kd.Rz HO_7.out) hb);have n1_ := Aside0.mk (Kd.R_below (Kd.Rz HO_10.out) hb);have n2_ := Aside0.mk (below_step bz hb);clear HO_7;clear HO_10;clear HB;have HO_7 := n0_;have HO_10 := n1_;have HB := n2_;clear n0_ n1_ n2_;(try clear hb);(try clear hb2);(try clear hk);(try clear hi))|(go_at_call 17;(with_reducible refine (impl_BaseOk.calls kj29 _ _ t337 t336 false _ ?side1 ?side2 A34.out).mono ?_);(case side1 => exact Kd.Cz (Kd.R_reads' HO_7.out).2.2);(case side2 => exact (Kd.R_reads' HO_7.out).2.1);rintro e w53 ⟨rfl,hb⟩;have n0_ := Aside0.mk (Kd.R_below (Kd.Rz HO_7.out) hb);have n1_ := Aside0.mk (Kd.R_below (Kd.Rz HO_10.out) hb);have n2_ := Aside0.mk (below_step bz hb);clear HO_7;clear HO_10;clear HB;have HO_7 := n0_;have HO_10 := n1_;have HB := n2_;clear n0_ n1_ n2_;(try clear hb);(try clear hb2);(try clear hk);(try clear hi)))
            go_ret
            exact ⟨by first|rfl|(simp [errW_none,errW_some] <;> rfl)|(simp [*,errW_none,errW_some] <;> rfl),bz⟩
          ·replace c33 := Bool.eq_false_iff.mpr c33
           subst c33
           have H1 : (some false) = some r := by rw [if_neg (show ¬ (false = true) by decide)] at H;exact H
           clear H
           have H := H1
           clear H1
           obtain rfl := Option.some.inj H
           go_wp2_with (first|((with_reducible refine gate_callee (f := 16) rfl ?_);refine goesL_ (some 53) rfl rfl Try.func16 (by kernel_rfl) rfl #[.slice Ao25 t337.length co25] rfl az ?_;(with_reducible refine (impl_OrdValid.calls kj29 _ _ t337 false _ ?side1 ?side2 A32.out).mono ?_);(case side1 => exact Kd.Cz (Kd.R_reads' HO_7.out).2.2);(case side2 => exact (Kd.R_reads' HO_7.out).2.1);rintro e w54 ⟨rfl,hb⟩;refine ⟨_,rfl,?_⟩;have n0_ := Aside0.mk (Kd.R_below (Kd.Rz HO_7.out) hb);have n1_ := Aside0.mk (Kd.R_below (Kd.Rz HO_10.out) hb);have n2_ := Aside0.mk (below_step bz hb);clear HO_7;clear HO_10;clear HB;have HO_7 := n0_;have HO_10 := n1_;have HB := n2_;clear n0_ n1_ n2_;(try clear hb);(try clear hb2);(try clear hk);(try clear hi)))
           go_ret
           exact ⟨by first|rfl|(simp [errW_none,errW_some] <;> rfl)|(simp [*,errW_none,errW_some] <;> rfl),bz⟩
    ·replace c10 := Bool.eq_false_iff.mpr c10
     subst c10
     have H1 : (some false) = some r := by rw [if_neg (show ¬ (false = true) by decide)] at H;exact H
     clear H
     have H := H1
     clear H1
     obtain rfl := Option.some.inj H
     go_wp2_with (first|((with_reducible refine gate_callee (f := 11) rfl ?_);refine goesL_ (some 22) rfl rfl Try.func11 (by kernel_rfl) rfl #[.slice A0 l0.length c0] rfl az ?_;(with_reducible refine (spec_DrawOrdInBase.calls kj2 _ _ l0 t335 t336 _ ?side1 ?side2 A6.out).mono ?_);(case side1 => exact Kd.Cz (Kd.C_below HR0.out HB.out));(case side2 => exact HC0.out);rintro e w55 ⟨rfl,hb⟩;refine ⟨_,rfl,?_⟩;have n0_ := Aside0.mk (below_step bz hb);clear HB;have HB := n0_;clear n0_;(try clear hb);(try clear hb2);(try clear hk);(try clear hi))|((with_reducible refine gate_callee (f := 12) rfl ?_);refine goesL_ (some 27) rfl rfl Try.func12 (by kernel_rfl) rfl #[.int .i64 t335,.int .i64 t336] rfl az ?_;(with_reducible refine (impl_OrdInBase.calls kj2 t335 t336 t337 _ A7.out).mono ?_);rintro e w56 ⟨v338,rfl,ho0,hb⟩;refine ⟨_,rfl,?_⟩;have n0_ := Aside0.mk (Kd.R_lower ho0 (below_size bz));have n1_ := Aside0.mk (below_step bz hb);clear HB;have HO339 := n0_;have HB := n1_;clear n0_ n1_;(try clear hb);(try clear hb2);(try clear hk);(try clear hi);(try clear ho0))|((with_reducible refine gate_callee (f := 14) rfl ?_);refine goesL_ (some 31) rfl rfl Try.func14 (by kernel_rfl) rfl #[.int .i64 t335,.int .i64 t336] rfl az ?_;(with_reducible refine (spec_OrdInBase.calls kj2 t335 t336 t340 _ A8.out).mono ?_);rintro e w57 ⟨v341,rfl,ho0,hb⟩;refine ⟨_,rfl,?_⟩;have n0_ := Aside0.mk (Kd.R_elder' (Kd.Rz HO339.out) (Kd.R_base ho0) hb);have n1_ := Aside0.mk (Kd.R_lower (Kd.R_new' ho0 (Kd.R_lt (Kd.Rz HO339.out))) (below_size bz));have n2_ := Aside0.mk (below_step bz hb);clear HO339;clear HB;have HO339 := n0_;have HO342 := n1_;have HB := n2_;clear n0_ n1_ n2_;(try clear hb);(try clear hb2);(try clear hk);(try clear hi);(try clear ho0);obtain ⟨Ao58,co58,eo58⟩ := Kd.R_slice HO339.out;subst eo58;obtain ⟨Ao59,co59,eo59⟩ := Kd.R_slice HO342.out;subst eo59)|((with_reducible refine gate_callee (f := 13) rfl ?_);refine goesL_ (some 32) rfl rfl Try.func13 (by kernel_rfl) rfl #[.slice Ao58 t337.length co58,.slice Ao59 t340.length co59] rfl az ?_;(with_reducible refine (laws_sameInts.calls kj2 _ _ t337 _ _ t340 false _ ?side1 ?side2 ?side3 ?side4 A9.out).mono ?_);(case side1 => exact Kd.Cz (Kd.R_reads' HO339.out).2.2);(case side2 => exact (Kd.R_reads' HO339.out).2.1);(case side3 => exact Kd.Cz (Kd.R_reads' HO342.out).2.2);(case side4 => exact (Kd.R_reads' HO342.out).2.1);rintro e w' ⟨rfl,⟨nd,rfl⟩⟩;refine ⟨_,rfl,?_⟩))
     go_ret
     exact ⟨by first|rfl|(simp [errW_none,errW_some] <;> rfl)|(simp [*,errW_none,errW_some] <;> rfl),bz⟩

/-- THE ONE PURE STATEMENT of laws_FnOrdInBase: yours. -/
def laws_FnOrdInBase.Pure : Prop := ∀ (l0 : List Int) (l1 : List Int),l0.length ≤ maxLen → l0.length * 1 ≤ 140737488351232 → (∀ x ∈ l0,(Lit.int .u8 x).wf = true) → l1.length ≤ maxLen → l1.length * 1 ≤ 140737488351232 → (∀ x ∈ l1,(Lit.int .u8 x).wf = true) → ∃ k,laws_FnOrdInBase.f k l0 l1 = some true
theorem laws_FnOrdInBase.walk (P : laws_FnOrdInBase.Pure) (a0 : Option Addr) (len0 cap0 : Nat) (z0 : List Int) (a1 : Option Addr) (len1 cap1 : Nat) (z1 : List Int) (w : World) (w0 : (a0 = none ∧ len0 = 0 ∧ cap0 = 0 ∧ z0 = []) ∨ ∃ x,a0 = some x ∧ len0 ≤ cap0 ∧ cap0 ≤ maxLen ∧ z0.length = cap0 ∧ (∀ i,i < z0.length → w.cell? (x.add i) = some (.int .u8 (z0.getD i 0))) ∧ ∀ n ∈ z0,(Lit.int .u8 n).wf = true) (y0 : len0 * 1 ≤ 140737488351232) (w1 : (a1 = none ∧ len1 = 0 ∧ cap1 = 0 ∧ z1 = []) ∨ ∃ x,a1 = some x ∧ len1 ≤ cap1 ∧ cap1 ≤ maxLen ∧ z1.length = cap1 ∧ (∀ i,i < z1.length → w.cell? (x.add i) = some (.int .u8 (z1.getD i 0))) ∧ ∀ n ∈ z1,(Lit.int .u8 n).wf = true) (y1 : len1 * 1 ≤ 140737488351232) :
  Calls Try.prog 3 #[.slice a0 len0 cap0,.slice a1 len1 cap1] w fun e w' => e = .returned (.bool true) ∧ Below w.heap.size w w' := by
 obtain ⟨l0,rfl,hr0,hm0,hw0,hc0⟩ := ReadsInt.ofRowC w0
 obtain ⟨l1,rfl,hr1,hm1,hw1,hc1⟩ := ReadsInt.ofRowC w1
 obtain ⟨k,h⟩ := P l0 l1 hm0 y0 hw0 hm1 y1 hw1
 refine (laws_FnOrdInBase.calls k _ _ l0 _ _ l1 true w (Kd.C_of_reads (d := (0 : Int)) (h1 := fun _ => rfl) hr0) hc0 (Kd.C_of_reads (d := (0 : Int)) (h1 := fun _ => rfl) hr1) hc1 h).mono ?_
 rintro e w' ⟨rfl,hd⟩
 exact ⟨rfl,hd⟩

end Go.Proofs.Ytpgkpahhohfmhaa.P
