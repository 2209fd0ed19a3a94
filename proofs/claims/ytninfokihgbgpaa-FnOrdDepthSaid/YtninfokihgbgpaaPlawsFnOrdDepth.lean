/- The walk of one Go function that the law reaches: it comes to what the Lean function of its name tells. -/
import Derived.Test.YtninfokihgbgpaaP0
import Derived.Test.YtninfokihgbgpaaPimplOrdCompare
import Derived.Test.YtninfokihgbgpaaPimplOrdDepth
import Derived.Test.YtninfokihgbgpaaPimplOrdValid
import Derived.Test.YtninfokihgbgpaaPlawsalive
import Derived.Test.YtninfokihgbgpaaPlawssameInts
import Derived.Test.YtninfokihgbgpaaPspecDrawOrdDepth
import Derived.Test.YtninfokihgbgpaaPspecOrdDepth
namespace Go.Proofs.Ytninfokihgbgpaa.P
open Go.RowKit Go.Proofs.YtninfokihgbgpaaW.PrintWords Go.Proofs.YtninfokihgbgpaaW.PrintLast Go.Proofs.YtninfokihgbgpaaW.PrintMore
attribute [local go_sem] max2_int min2_int max_two min_two max_three min_three max_four min_four   
set_option linter.unusedVariables false
set_option linter.unusedSimpArgs false

/-! ### laws_FnOrdDepth: function 5 -/
def laws_FnOrdDepth.j0 : Nat → List Int → List Int → Bool → Option (Bool)
 | 0,_,_,_ => none
 | k + 1,x0,x1,x16 => if x16 = true then (some true) else ((spec_DrawOrdDepth.f k x0).bind fun t551 => ((impl_OrdDepth.f k t551).bind fun t554 => ((spec_OrdDepth.f k t551).bind fun t555 => (if t554 = t555 then (if t554 < 0 then (if t554 = (-1) then ((impl_OrdValid.f k t551).bind fun t556 => (if t556 = true then (some false) else ((laws_alive.f k).bind fun t557 => (some t557)))) else (some false)) else ((spec_DrawOrdDepth.f k x1).bind fun t558 => ((impl_OrdDepth.f k t558).bind fun t561 => ((laws_sameInts.f k t551 (([0] : List Int))).bind fun t565 => (if ((t554 == 0) == t565) = true then (if t561 < 0 then (some true) else (if t561 ≥ t554 then (some true) else ((impl_OrdCompare.f k t558 t551).bind fun t566 => (some (t566 == (-1)))))) else (some false)))))) else (some false)))))
def laws_FnOrdDepth.f (k : Nat) (l0 : List Int) (l1 : List Int) : Option (Bool) := if (l0.length : Int) > 1048576 then (laws_FnOrdDepth.j0 k l0 l1 true) else (laws_FnOrdDepth.j0 k l0 l1 (decide ((l1.length : Int) > 1048576)))
theorem laws_FnOrdDepth.mono_l : ∀ k,(∀ y0 y1 y2,LeO (laws_FnOrdDepth.j0 k y0 y1 y2) (laws_FnOrdDepth.j0 (k + 1) y0 y1 y2))
 | 0 => fun _ _ _ r h => by simp [laws_FnOrdDepth.j0] at h
 | k + 1 => by
  have ih0 := laws_FnOrdDepth.mono_l k
  ·intro y0 y1 y2
   unfold laws_FnOrdDepth.j0
   repeat' first|(with_reducible first|exact ih0 _ _ _|exact impl_OrdCompare.mono _ _ _|exact impl_OrdDepth.mono _ _|exact impl_OrdValid.mono _ _|exact laws_alive.mono _|exact laws_sameInts.mono _ _ _|exact spec_DrawOrdDepth.mono _ _|exact spec_OrdDepth.mono _ _|exact LeO.refl _|exact LeO.none _|refine LeO.ite ?_ ?_|refine LeO.bind ?_ (fun _ => ?_))|exact ih0 _ _ _|exact impl_OrdCompare.mono _ _ _|exact impl_OrdDepth.mono _ _|exact impl_OrdValid.mono _ _|exact laws_alive.mono _|exact laws_sameInts.mono _ _ _|exact spec_DrawOrdDepth.mono _ _|exact spec_OrdDepth.mono _ _|exact LeO.none _|refine LeO.ite ?_ ?_|refine LeO.bind ?_ (fun _ => ?_)
theorem laws_FnOrdDepth.mono : ∀ a0 a1 k,LeO (laws_FnOrdDepth.f k a0 a1) (laws_FnOrdDepth.f (k + 1) a0 a1) := by
 intro a0 a1 k
 have ih0 := laws_FnOrdDepth.mono_l k
 unfold laws_FnOrdDepth.f
 repeat' first|(with_reducible first|exact ih0 _ _ _|exact LeO.refl _|exact LeO.none _|refine LeO.ite ?_ ?_|refine LeO.bind ?_ (fun _ => ?_))|exact ih0 _ _ _|exact LeO.none _|refine LeO.ite ?_ ?_|refine LeO.bind ?_ (fun _ => ?_)
set_option maxHeartbeats 8000000 in
set_option maxRecDepth 100000 in
theorem laws_FnOrdDepth.calls (k : Nat) (A0 : Option Addr) (c0 : Nat) (l0 : List Int) (A1 : Option Addr) (c1 : Nat) (l1 : List Int) (r : Bool) (w : World) (hr0 : Kd.C (Kd.int .u8) w A0 l0.length l0) (hc0 : l0.length ≤ c0) (hr1 : Kd.C (Kd.int .u8) w A1 l1.length l1) (hc1 : l1.length ≤ c1) (h : laws_FnOrdDepth.f k l0 l1 = some r) :
  Calls Try.prog 5 #[.slice A0 l0.length c0,.slice A1 l1.length c1] w fun e w' => e = .returned (.bool r) ∧ Below w.heap.size w w' := by
 have HR0 := Aside0.mk hr0
 have HC0 := Aside0.mk hc0
 clear hr0 hc0
 have HR1 := Aside0.mk hr1
 have HC1 := Aside0.mk hc1
 clear hr1 hc1
 have HB := Aside0.mk (Below.refl w.heap.size w)
 have H : (if (l0.length : Int) > 1048576 then (laws_FnOrdDepth.j0 k l0 l1 true) else (laws_FnOrdDepth.j0 k l0 l1 (decide ((l1.length : Int) > 1048576)))) = some r := h
 clear h
 have HC3 := Aside0.mk H
 clear H
 go_enter Try.func5,Try.ntmps5
 go_upto_region 1 with (fail)
 go_cut [16] (fun v16 wc => ∃ (kq : Nat) (x16_2 : Bool),v16 = .bool x16_2 ∧ Aside0 (laws_FnOrdDepth.j0 kq l0 l1 x16_2 = some r) ∧ Aside0 (kq ≤ k) ∧ Aside0 (Below w.heap.size w wc))
 case first =>
  have H := HC3.out
  clear HC3
  by_cases c4 : (l0.length : Int) > 1048576
  ·rw [if_pos c4] at H
   have c4b0 : decide (1048576 < (l0.length : Int)) = true := decide_eq_true c4
   have c4b1 : decide (1048576 < l0.length) = true := decide_eq_true (by omega)
   clear c4
   (first|rw [c4b0]|(simp only [i64_w,i32_w];rw [c4b0])|skip)
   have H' := Aside0.mk H
   clear H
   go_wp2
   go_meet
   case rel => exact ⟨_,(true),(by first|rfl|(simp;done)|(simp [*];done)),H',⟨by first|omega|exact Nat.le_refl _⟩,⟨bz⟩⟩
  ·rw [if_neg c4] at H
   have c4b0 : decide (1048576 < (l0.length : Int)) = false := decide_eq_false c4
   have c4b1 : decide (1048576 < l0.length) = false := decide_eq_false (by omega)
   clear c4
   (first|rw [c4b0]|(simp only [i64_w,i32_w];rw [c4b0])|skip)
   have H' := Aside0.mk H
   clear H
   go_wp2
   go_meet
   case rel => exact ⟨_,(decide ((l1.length : Int) > 1048576)),(by first|rfl|(simp;done)|(simp [*];done)),H',⟨by first|omega|exact Nat.le_refl _⟩,⟨bz⟩⟩
 case rest =>
  clear HC3
  try clear c1
  try clear p2
  try clear c4
  try clear c4b0
  try clear c4b1
  obtain ⟨kq,x16_2,rfl,HA,HJ2,HB⟩ := hcut
  cases kq with
  | zero => exact absurd HA.out (by simp [laws_FnOrdDepth.j0])
  | succ kj2 =>
   have H := HA.out
   clear HA
   simp only [laws_FnOrdDepth.j0] at H
   by_cases c5 : x16_2 = true
   ·subst c5
    have H1 : (some true) = some r := by rw [if_pos rfl] at H;exact H
    clear H
    have H := H1
    clear H1
    obtain rfl := Option.some.inj H
    go_wp2
    go_ret
    exact ⟨by first|rfl|(simp [errW_none,errW_some] <;> rfl)|(simp [*,errW_none,errW_some] <;> rfl),bz⟩
   ·replace c5 := Bool.eq_false_iff.mpr c5
    subst c5
    have H1 : ((spec_DrawOrdDepth.f kj2 l0).bind fun t551 => ((impl_OrdDepth.f kj2 t551).bind fun t554 => ((spec_OrdDepth.f kj2 t551).bind fun t555 => (if t554 = t555 then (if t554 < 0 then (if t554 = (-1) then ((impl_OrdValid.f kj2 t551).bind fun t556 => (if t556 = true then (some false) else ((laws_alive.f kj2).bind fun t557 => (some t557)))) else (some false)) else ((spec_DrawOrdDepth.f kj2 l1).bind fun t558 => ((impl_OrdDepth.f kj2 t558).bind fun t561 => ((laws_sameInts.f kj2 t551 (([0] : List Int))).bind fun t565 => (if ((t554 == 0) == t565) = true then (if t561 < 0 then (some true) else (if t561 ≥ t554 then (some true) else ((impl_OrdCompare.f kj2 t558 t551).bind fun t566 => (some (t566 == (-1)))))) else (some false)))))) else (some false))))) = some r := by rw [if_neg (show ¬ (false = true) by decide)] at H;exact H
    clear H
    have H := H1
    clear H1
    replace H := Option.bind_eq_some_iff.mp H
    obtain ⟨t551,A60,H⟩ := H
    replace H : ((impl_OrdDepth.f kj2 t551).bind fun t554 => ((spec_OrdDepth.f kj2 t551).bind fun t555 => (if t554 = t555 then (if t554 < 0 then (if t554 = (-1) then ((impl_OrdValid.f kj2 t551).bind fun t556 => (if t556 = true then (some false) else ((laws_alive.f kj2).bind fun t557 => (some t557)))) else (some false)) else ((spec_DrawOrdDepth.f kj2 l1).bind fun t558 => ((impl_OrdDepth.f kj2 t558).bind fun t561 => ((laws_sameInts.f kj2 t551 (([0] : List Int))).bind fun t565 => (if ((t554 == 0) == t565) = true then (if t561 < 0 then (some true) else (if t561 ≥ t554 then (some true) else ((impl_OrdCompare.f kj2 t558 t551).bind fun t566 => (some (t566 == (-1)))))) else (some false)))))) else (some false)))) = some r := H
    have A6 := Aside0.mk A60
    clear A60
    replace H := Option.bind_eq_some_iff.mp H
    obtain ⟨t554,A70,H⟩ := H
    replace H : ((spec_OrdDepth.f kj2 t551).bind fun t555 => (if t554 = t555 then (if t554 < 0 then (if t554 = (-1) then ((impl_OrdValid.f kj2 t551).bind fun t556 => (if t556 = true then (some false) else ((laws_alive.f kj2).bind fun t557 => (some t557)))) else (some false)) else ((spec_DrawOrdDepth.f kj2 l1).bind fun t558 => ((impl_OrdDepth.f kj2 t558).bind fun t561 => ((laws_sameInts.f kj2 t551 (([0] : List Int))).bind fun t565 => (if ((t554 == 0) == t565) = true then (if t561 < 0 then (some true) else (if t561 ≥ t554 then (some true) else ((impl_OrdCompare.f kj2 t558 t551).bind fun t566 => (some (t566 == (-1)))))) else (some false)))))) else (some false))) = some r := H
    have A7 := Aside0.mk A70
    clear A70
    replace H := Option.bind_eq_some_iff.mp H
    obtain ⟨t555,A80,H⟩ := H
    replace H : (if t554 = t555 then (if t554 < 0 then (if t554 = (-1) then ((impl_OrdValid.f kj2 t551).bind fun t556 => (if t556 = true then (some false) else ((laws_alive.f kj2).bind fun t557 => (some t557)))) else (some false)) else ((spec_DrawOrdDepth.f kj2 l1).bind fun t558 => ((impl_OrdDepth.f kj2 t558).bind fun t561 => ((laws_sameInts.f kj2 t551 (([0] : List Int))).bind fun t565 => (if ((t554 == 0) == t565) = true then (if t561 < 0 then (some true) else (if t561 ≥ t554 then (some true) else ((impl_OrdCompare.f kj2 t558 t551).bind fun t566 => (some (t566 == (-1)))))) else (some false)))))) else (some false)) = some r := H
    have A8 := Aside0.mk A80
    clear A80
    by_cases c9 : t554 = t555
    ·rw [if_pos c9] at H
     have c9b0 : (t554 == t555) = true := beq_iff_eq.mpr c9
     have c9b1 : (t554 != t555) = false := bne_eq_false_iff_eq.mpr c9
     clear c9
     by_cases c10 : t554 < 0
     ·rw [if_pos c10] at H
      have c10b0 : decide (t554 < 0) = true := decide_eq_true c10
      clear c10
      by_cases c11 : t554 = (-1)
      ·rw [if_pos c11] at H
       have c11b0 : (t554 == (-1)) = true := beq_iff_eq.mpr c11
       have c11b1 : (t554 != (-1)) = false := bne_eq_false_iff_eq.mpr c11
       clear c11
       replace H := Option.bind_eq_some_iff.mp H
       obtain ⟨t556,A120,H⟩ := H
       replace H : (if t556 = true then (some false) else ((laws_alive.f kj2).bind fun t557 => (some t557))) = some r := H
       have A12 := Aside0.mk A120
       clear A120
       by_cases c13 : t556 = true
       ·subst c13
        have H1 : (some false) = some r := by rw [if_pos rfl] at H;exact H
        clear H
        have H := H1
        clear H1
        obtain rfl := Option.some.inj H
        go_wp2_with (first|((with_reducible refine gate_callee (f := 25) rfl ?_);refine goesL_ (some 18) rfl rfl Try.func25 (by kernel_rfl) rfl #[.slice A0 l0.length c0] rfl az ?_;(with_reducible refine (spec_DrawOrdDepth.calls kj2 _ _ l0 t551 _ ?side1 ?side2 A6.out).mono ?_);(case side1 => exact Kd.Cz (Kd.C_below HR0.out HB.out));(case side2 => exact HC0.out);rintro e w14 ⟨v552,rfl,ho0,hb⟩;refine ⟨_,rfl,?_⟩;have n0_ := Aside0.mk (Kd.R_lower ho0 (below_size bz));have n1_ := Aside0.mk (below_step bz hb);clear HB;have HO553 := n0_;have HB := n1_;clear n0_ n1_;(try clear hb);(try clear hb2);(try clear hk);(try clear hi);(try clear ho0);obtain ⟨Ao15,co15,eo15⟩ := Kd.R_slice HO553.out;subst eo15)|((with_reducible refine gate_callee (f := 26) rfl ?_);refine goesL_ (some 20) rfl rfl Try.func26 (by kernel_rfl) rfl #[.slice Ao15 t551.length co15] rfl az ?_;(with_reducible refine (impl_OrdDepth.calls kj2 _ _ t551 t554 _ ?side1 ?side2 A7.out).mono ?_);(case side1 => exact Kd.Cz (Kd.R_reads' HO553.out).2.2);(case side2 => exact (Kd.R_reads' HO553.out).2.1);rintro e w16 ⟨rfl,hb⟩;refine ⟨_,rfl,?_⟩;have n0_ := Aside0.mk (Kd.R_below (Kd.Rz HO553.out) hb);have n1_ := Aside0.mk (below_step bz hb);clear HO553;clear HB;have HO553 := n0_;have HB := n1_;clear n0_ n1_;(try clear hb);(try clear hb2);(try clear hk);(try clear hi))|((with_reducible refine gate_callee (f := 27) rfl ?_);refine goesL_ (some 23) rfl rfl Try.func27 (by kernel_rfl) rfl #[.slice Ao15 t551.length co15] rfl az ?_;(with_reducible refine (spec_OrdDepth.calls kj2 (fun k_ => some k_ = (.slice Ao15 t551.length co15 : Value).ownBlock) _ _ t551 t555 _ ?side1 A8.out).mono ?_);(case side1 => exact Kd.R_V (Kd.R_tight rfl (HO553.out)));rintro e w17 ⟨rfl,hb⟩;refine ⟨_,rfl,?_⟩;have n0_ := Aside0.mk (Kd.R_below (Kd.Rz HO553.out) hb);have n1_ := Aside0.mk (below_step bz hb);clear HO553;clear HB;have HO553 := n0_;have HB := n1_;clear n0_ n1_;(try clear hb);(try clear hb2);(try clear hk);(try clear hi))|(go_at_call 21;(with_reducible refine (impl_OrdValid.calls kj2 _ _ t551 true _ ?side1 ?side2 A12.out).mono ?_);(case side1 => exact Kd.Cz (Kd.R_reads' HO553.out).2.2);(case side2 => exact (Kd.R_reads' HO553.out).2.1);rintro e w18 ⟨rfl,hb⟩;have n0_ := Aside0.mk (Kd.R_below (Kd.Rz HO553.out) hb);have n1_ := Aside0.mk (below_step bz hb);clear HO553;clear HB;have HO553 := n0_;have HB := n1_;clear n0_ n1_;(try clear hb);(try clear hb2);(try clear hk);(try clear hi)))
        go_ret
        exact ⟨by first|rfl|(simp [errW_none,errW_some] <;> rfl)|(simp [*,errW_none,errW_some] <;> rfl),bz⟩
       ·replace c13 := Bool.eq_false_iff.mpr c13
        subst c13
        have H1 : ((laws_alive.f kj2).bind fun t557 => (some t557)) = some r := by rw [if_neg (show ¬ (false = true) by decide)] at H;exact H
        clear H
        have H := H1
        clear H1
        replace H := Option.bind_eq_some_iff.mp H
        obtain ⟨t557,A190,H⟩ := H
        replace H : (some t557) = some r := H
        have A19 := Aside0.mk A190
        clear A190
        obtain rfl := Option.some.inj H
        go_wp2_with (first|((with_reducible refine gate_callee (f := 25) rfl ?_);refine goesL_ (some 18) rfl rfl Try.func25 (by kernel_rfl) rfl #[.slice A0 l0.length c0] rfl az ?_;(with_reducible refine (spec_DrawOrdDepth.calls kj2 _ _ l0 t551 _ ?side1 ?side2 A6.out).mono ?_);(case side1 => exact Kd.Cz (Kd.C_below HR0.out HB.out));(case side2 => exact HC0.out);rintro e w20 ⟨v552,rfl,ho0,hb⟩;refine ⟨_,rfl,?_⟩;have n0_ := Aside0.mk (Kd.R_lower ho0 (below_size bz));have n1_ := Aside0.mk (below_step bz hb);clear HB;have HO553 := n0_;have HB := n1_;clear n0_ n1_;(try clear hb);(try clear hb2);(try clear hk);(try clear hi);(try clear ho0);obtain ⟨Ao21,co21,eo21⟩ := Kd.R_slice HO553.out;subst eo21)|((with_reducible refine gate_callee (f := 26) rfl ?_);refine goesL_ (some 20) rfl rfl Try.func26 (by kernel_rfl) rfl #[.slice Ao21 t551.length co21] rfl az ?_;(with_reducible refine (impl_OrdDepth.calls kj2 _ _ t551 t554 _ ?side1 ?side2 A7.out).mono ?_);(case side1 => exact Kd.Cz (Kd.R_reads' HO553.out).2.2);(case side2 => exact (Kd.R_reads' HO553.out).2.1);rintro e w22 ⟨rfl,hb⟩;refine ⟨_,rfl,?_⟩;have n0_ := Aside0.mk (Kd.R_below (Kd.Rz HO553.out) hb);have n1_ := Aside0.mk (below_step bz hb);clear HO553;clear HB;have HO553 := n0_;have HB := n1_;clear n0_ n1_;(try clear hb);(try clear hb2);(try clear hk);(try clear hi))|((with_reducible refine gate_callee (f := 27) rfl ?_);refine goesL_ (some 23) rfl rfl Try.func27 (by kernel_rfl) rfl #[.slice Ao21 t551.length co21] rfl az ?_;(with_reducible refine (spec_OrdDepth.calls kj2 (fun k_ => some k_ = (.slice Ao21 t551.length co21 : Value).ownBlock) _ _ t551 t555 _ ?side1 A8.out).mono ?_);(case side1 => exact Kd.R_V (Kd.R_tight rfl (HO553.out)));rintro e w23 ⟨rfl,hb⟩;refine ⟨_,rfl,?_⟩;have n0_ := Aside0.mk (Kd.R_below (Kd.Rz HO553.out) hb);have n1_ := Aside0.mk (below_step bz hb);clear HO553;clear HB;have HO553 := n0_;have HB := n1_;clear n0_ n1_;(try clear hb);(try clear hb2);(try clear hk);(try clear hi))|(go_at_call 21;(with_reducible refine (impl_OrdValid.calls kj2 _ _ t551 false _ ?side1 ?side2 A12.out).mono ?_);(case side1 => exact Kd.Cz (Kd.R_reads' HO553.out).2.2);(case side2 => exact (Kd.R_reads' HO553.out).2.1);rintro e w24 ⟨rfl,hb⟩;have n0_ := Aside0.mk (Kd.R_below (Kd.Rz HO553.out) hb);have n1_ := Aside0.mk (below_step bz hb);clear HO553;clear HB;have HO553 := n0_;have HB := n1_;clear n0_ n1_;(try clear hb);(try clear hb2);(try clear hk);(try clear hi))|(go_at_call 19;(with_reducible refine (laws_alive.calls kj2  t557 _ A19.out).mono ?_);rintro e w25 ⟨rfl,hb⟩;have n0_ := Aside0.mk (Kd.R_below (Kd.Rz HO553.out) hb);have n1_ := Aside0.mk (below_step bz hb);clear HO553;clear HB;have HO553 := n0_;have HB := n1_;clear n0_ n1_;(try clear hb);(try clear hb2);(try clear hk);(try clear hi)))
        go_ret
        exact ⟨by first|rfl|(simp [errW_none,errW_some] <;> rfl)|(simp [*,errW_none,errW_some] <;> rfl),bz⟩
      ·rw [if_neg c11] at H
       have c11b0 : (t554 == (-1)) = false := beq_eq_false_iff_ne.mpr c11
       have c11b1 : (t554 != (-1)) = true := bne_iff_ne.mpr c11
       obtain rfl := Option.some.inj H
       go_wp2_with (first|((with_reducible refine gate_callee (f := 25) rfl ?_);refine goesL_ (some 18) rfl rfl Try.func25 (by kernel_rfl) rfl #[.slice A0 l0.length c0] rfl az ?_;(with_reducible refine (spec_DrawOrdDepth.calls kj2 _ _ l0 t551 _ ?side1 ?side2 A6.out).mono ?_);(case side1 => exact Kd.Cz (Kd.C_below HR0.out HB.out));(case side2 => exact HC0.out);rintro e w26 ⟨v552,rfl,ho0,hb⟩;refine ⟨_,rfl,?_⟩;have n0_ := Aside0.mk (Kd.R_lower ho0 (below_size bz));have n1_ := Aside0.mk (below_step bz hb);clear HB;have HO553 := n0_;have HB := n1_;clear n0_ n1_;(try clear hb);(try clear hb2);(try clear hk);(try clear hi);(try clear ho0);obtain ⟨Ao27,co27,eo27⟩ := Kd.R_slice HO553.out;subst eo27)|((with_reducible refine gate_callee (f := 26) rfl ?_);refine goesL_ (some 20) rfl rfl Try.func26 (by kernel_rfl) rfl #[.slice Ao27 t551.length co27] rfl az ?_;(with_reducible refine (impl_OrdDepth.calls kj2 _ _ t551 t554 _ ?side1 ?side2 A7.out).mono ?_);(case side1 => exact Kd.Cz (Kd.R_reads' HO553.out).2.2);(case side2 => exact (Kd.R_reads' HO553.out).2.1);rintro e w28 ⟨rfl,hb⟩;refine ⟨_,rfl,?_⟩;have n0_ := Aside0.mk (Kd.R_below (Kd.Rz HO553.out) hb);have n1_ := Aside0.mk (below_step bz hb);clear HO553;clear HB;have HO553 := n0_;have HB := n1_;clear n0_ n1_;(try clear hb);(try clear hb2);(try clear hk);(try clear hi))|((with_reducible refine gate_callee (f := 27) rfl ?_);refine goesL_ (some 23) rfl rfl Try.func27 (by kernel_rfl) rfl #[.slice Ao27 t551.length co27] rfl az ?_;(with_reducible refine (spec_OrdDepth.calls kj2 (fun k_ => some k_ = (.slice Ao27 t551.length co27 : Value).ownBlock) _ _ t551 t555 _ ?side1 A8.out).mono ?_);(case side1 => exact Kd.R_V (Kd.R_tight rfl (HO553.out)));rintro e w29 ⟨rfl,hb⟩;refine ⟨_,rfl,?_⟩;have n0_ := Aside0.mk (Kd.R_below (Kd.Rz HO553.out) hb);have n1_ := Aside0.mk (below_step bz hb);clear HO553;clear HB;have HO553 := n0_;have HB := n1_;clear n0_ n1_;(try clear hb);(try clear hb2);(try clear hk);(try clear hi)))
       go_ret
       exact ⟨by first|rfl|(simp [errW_none,errW_some] <;> rfl)|(simp [*,errW_none,errW_some] <;> rfl),bz⟩
     ·rw [if_neg c10] at H
      have c10b0 : decide (t554 < 0) = false := decide_eq_false c10
      clear c10
      replace H := Option.bind_eq_some_iff.mp H
      obtain ⟨t558,A300,H⟩ := H
      replace H : ((impl_OrdDepth.f kj2 t558).bind fun t561 => ((laws_sameInts.f kj2 t551 (([0] : List Int))).bind fun t565 => (if ((t554 == 0) == t565) = true then (if t561 < 0 then (some true) else (if t561 ≥ t554 then (some true) else ((impl_OrdCompare.f kj2 t558 t551).bind fun t566 => (some (t566 == (-1)))))) else (some false)))) = some r := H
      have A30 := Aside0.mk A300
      clear A300
      replace H := Option.bind_eq_some_iff.mp H
      obtain ⟨t561,A310,H⟩ := H
      replace H : ((laws_sameInts.f kj2 t551 (([0] : List Int))).bind fun t565 => (if ((t554 == 0) == t565) = true then (if t561 < 0 then (some true) else (if t561 ≥ t554 then (some true) else ((impl_OrdCompare.f kj2 t558 t551).bind fun t566 => (some (t566 == (-1)))))) else (some false))) = some r := H
      have A31 := Aside0.mk A310
      clear A310
      obtain ⟨y562,hy562⟩ : ∃ y_ : List Int,y_ = (([0] : List Int)) := ⟨_,rfl⟩
      replace H : ((laws_sameInts.f kj2 t551 y562).bind fun t565 => (if ((t554 == 0) == t565) = true then (if t561 < 0 then (some true) else (if t561 ≥ t554 then (some true) else ((impl_OrdCompare.f kj2 t558 t551).bind fun t566 => (some (t566 == (-1)))))) else (some false))) = some r := by first|(rw [hy562];with_reducible exact H)|(have H2_ := (Option.bind_some _ _).symm.trans H;rw [hy562];with_reducible exact H2_)|(have H2_ := (Option.bind_some _ _).symm.trans H;with_reducible exact H2_)|with_reducible exact H|(rw [hy562];exact H)|exact H
      have Ny562 := Aside0.mk hy562
      clear hy562
      replace H := Option.bind_eq_some_iff.mp H
      obtain ⟨t565,A320,H⟩ := H
      replace H : (if ((t554 == 0) == t565) = true then (if t561 < 0 then (some true) else (if t561 ≥ t554 then (some true) else ((impl_OrdCompare.f kj2 t558 t551).bind fun t566 => (some (t566 == (-1)))))) else (some false)) = some r := H
      have A32 := Aside0.mk A320
      clear A320
      by_cases c33 : ((t554 == 0) == t565) = true
      ·rw [if_pos c33] at H
       have c33b0 : ((t554 == 0) == t565) = true := c33
       (try (have c33b1 : decide ((t554 == 0) = t565) = true := by simpa using c33))
       (try (have c33b2 : ((t554 == 0) == t565) = true := by simpa using c33))
       clear c33
       by_cases c34 : t561 < 0
       ·rw [if_pos c34] at H
        have c34b0 : decide (t561 < 0) = true := decide_eq_true c34
        clear c34
        obtain rfl := Option.some.inj H
        go_wp2_with (first|((with_reducible refine gate_callee (f := 25) rfl ?_);refine goesL_ (some 18) rfl rfl Try.func25 (by kernel_rfl) rfl #[.slice A0 l0.length c0] rfl az ?_;(with_reducible refine (spec_DrawOrdDepth.calls kj2 _ _ l0 t551 _ ?side1 ?side2 A6.out).mono ?_);(case side1 => exact Kd.Cz (Kd.C_below HR0.out HB.out));(case side2 => exact HC0.out);rintro e w35 ⟨v552,rfl,ho0,hb⟩;refine ⟨_,rfl,?_⟩;have n0_ := Aside0.mk (Kd.R_lower ho0 (below_size bz));have n1_ := Aside0.mk (below_step bz hb);clear HB;have HO553 := n0_;have HB := n1_;clear n0_ n1_;(try clear hb);(try clear hb2);(try clear hk);(try clear hi);(try clear ho0);obtain ⟨Ao36,co36,eo36⟩ := Kd.R_slice HO553.out;subst eo36)|((with_reducible refine gate_callee (f := 26) rfl ?_);refine goesL_ (some 20) rfl rfl Try.func26 (by kernel_rfl) rfl #[.slice Ao36 t551.length co36] rfl az ?_;(with_reducible refine (impl_OrdDepth.calls kj2 _ _ t551 t554 _ ?side1 ?side2 A7.out).mono ?_);(case side1 => exact Kd.Cz (Kd.R_reads' HO553.out).2.2);(case side2 => exact (Kd.R_reads' HO553.out).2.1);rintro e w37 ⟨rfl,hb⟩;refine ⟨_,rfl,?_⟩;have n0_ := Aside0.mk (Kd.R_below (Kd.Rz HO553.out) hb);have n1_ := Aside0.mk (below_step bz hb);clear HO553;clear HB;have HO553 := n0_;have HB := n1_;clear n0_ n1_;(try clear hb);(try clear hb2);(try clear hk);(try clear hi))|((with_reducible refine gate_callee (f := 27) rfl ?_);refine goesL_ (some 23) rfl rfl Try.func27 (by kernel_rfl) rfl #[.slice Ao36 t551.length co36] rfl az ?_;(with_reducible refine (spec_OrdDepth.calls kj2 (fun k_ => some k_ = (.slice Ao36 t551.length co36 : Value).ownBlock) _ _ t551 t555 _ ?side1 A8.out).mono ?_);(case side1 => exact Kd.R_V (Kd.R_tight rfl (HO553.out)));rintro e w38 ⟨rfl,hb⟩;refine ⟨_,rfl,?_⟩;have n0_ := Aside0.mk (Kd.R_below (Kd.Rz HO553.out) hb);have n1_ := Aside0.mk (below_step bz hb);clear HO553;clear HB;have HO553 := n0_;have HB := n1_;clear n0_ n1_;(try clear hb);(try clear hb2);(try clear hk);(try clear hi))|((with_reducible refine gate_callee (f := 25) rfl ?_);refine goesL_ (some 38) rfl rfl Try.func25 (by kernel_rfl) rfl #[.slice A1 l1.length c1] rfl az ?_;(with_reducible refine (spec_DrawOrdDepth.calls kj2 _ _ l1 t558 _ ?side1 ?side2 A30.out).mono ?_);(case side1 => exact Kd.Cz (Kd.C_below HR1.out HB.out));(case side2 => exact HC1.out);rintro e w39 ⟨v559,rfl,ho0,hb⟩;refine ⟨_,rfl,?_⟩;have n0_ := Aside0.mk (Kd.R_elder' (Kd.Rz HO553.out) (Kd.R_base ho0) hb);have n1_ := Aside0.mk (Kd.R_lower (Kd.R_new' ho0 (Kd.R_lt (Kd.Rz HO553.out))) (below_size bz));have n2_ := Aside0.mk (below_step bz hb);clear HO553;clear HB;have HO553 := n0_;have HO560 := n1_;have HB := n2_;clear n0_ n1_ n2_;(try clear hb);(try clear hb2);(try clear hk);(try clear hi);(try clear ho0);obtain ⟨Ao40,co40,eo40⟩ := Kd.R_slice HO560.out;subst eo40)|((with_reducible refine gate_callee (f := 26) rfl ?_);refine goesL_ (some 40) rfl rfl Try.func26 (by kernel_rfl) rfl #[.slice Ao40 t558.length co40] rfl az ?_;(with_reducible refine (impl_OrdDepth.calls kj2 _ _ t558 t561 _ ?side1 ?side2 A31.out).mono ?_);(case side1 => exact Kd.Cz (Kd.R_reads' HO560.out).2.2);(case side2 => exact (Kd.R_reads' HO560.out).2.1);rintro e w41 ⟨rfl,hb⟩;refine ⟨_,rfl,?_⟩;have n0_ := Aside0.mk (Kd.R_below (Kd.Rz HO553.out) hb);have n1_ := Aside0.mk (Kd.R_below (Kd.Rz HO560.out) hb);have n2_ := Aside0.mk (below_step bz hb);clear HO553;clear HO560;clear HB;have HO553 := n0_;have HO560 := n1_;have HB := n2_;clear n0_ n1_ n2_;(try clear hb);(try clear hb2);(try clear hk);(try clear hi))|((with_reducible refine gate_dst (N := 44) rfl ?_);refine Kd.R_lit (Kd.int .i64) _ 3 ?hg (N := 44) ?hd (xs := ([0] : List Int)) (inner := [.int .i64 0]) (ok := fun _ => True) (okp := fun _ => True) ?hr ?hp (fun _ hk => hk) trivial (Below.refl _ _) (Nat.le_refl _) (by simp) ?_;(case hd => rfl);(case hg => rfl);(case hr => first|(go_simp;done)|(go_simp;rfl));(case hp => exact (Reps.one (show Kd.M (Kd.int .i64) _ _ _ 0 [.int .i64 0] from rfl) (Reps.none _ _)));intro v563 w42 ho43 hb hg_ hnew_;clear hg_ hnew_;(first|rw [← Ny562.out] at ho43|(simp only [Int.reduceToNat] at ho43;rw [← Ny562.out] at ho43));have n0_ := Aside0.mk (Kd.R_elder' (Kd.Rz HO553.out) (Kd.R_base ho43) hb);have n1_ := Aside0.mk (Kd.R_elder' (Kd.Rz HO560.out) (Kd.R_base ho43) hb);have n2_ := Aside0.mk (Kd.R_lower (Kd.R_new' (Kd.R_new' ho43 (Kd.R_lt (Kd.Rz HO553.out))) (Kd.R_lt (Kd.Rz HO560.out))) (below_size bz));have n3_ := Aside0.mk (below_step bz hb);clear HO553;clear HO560;clear HB;have HO553 := n0_;have HO560 := n1_;have HO564 := n2_;have HB := n3_;clear n0_ n1_ n2_ n3_;clear hb ho43;obtain ⟨Ao44,co44,eo44⟩ := Kd.R_slice HO564.out;subst eo44)|((with_reducible refine gate_callee (f := 17) rfl ?_);refine goesL_ (some 45) rfl rfl Try.func17 (by kernel_rfl) rfl #[.slice Ao36 t551.length co36,.slice Ao44 y562.length co44] rfl az ?_;(with_reducible refine (laws_sameInts.calls kj2 _ _ t551 _ _ y562 t565 _ ?side1 ?side2 ?side3 ?side4 A32.out).mono ?_);(case side1 => exact Kd.Cz (Kd.R_reads' HO553.out).2.2);(case side2 => exact (Kd.R_reads' HO553.out).2.1);(case side3 => exact Kd.Cz (Kd.R_reads' HO564.out).2.2);(case side4 => exact (Kd.R_reads' HO564.out).2.1);rintro e w' ⟨rfl,⟨nd,rfl⟩⟩;refine ⟨_,rfl,?_⟩))
        go_ret
        exact ⟨by first|rfl|(simp [errW_none,errW_some] <;> rfl)|(simp [*,errW_none,errW_some] <;> rfl),bz⟩
       ·rw [if_neg c34] at H
        have c34b0 : decide (t561 < 0) = false := decide_eq_false c34
        clear c34
        by_cases c45 : t561 ≥ t554
        ·rw [if_pos c45] at H
         have c45b0 : decide (t554 ≤ t561) = true := decide_eq_true c45
         clear c45
         obtain rfl := Option.some.inj H
         go_wp2_with (first|((with_reducible refine gate_callee (f := 25) rfl ?_);refine goesL_ (some 18) rfl rfl Try.func25 (by kernel_rfl) rfl #[.slice A0 l0.length c0] rfl az ?_;(with_reducible refine (spec_DrawOrdDepth.calls kj2 _ _ l0 t551 _ ?side1 ?side2 A6.out).mono ?_);(case side1 => exact Kd.Cz (Kd.C_below HR0.out HB.out));(case side2 => exact HC0.out);rintro e w46 ⟨v552,rfl,ho0,hb⟩;refine ⟨_,rfl,?_⟩;have n0_ := Aside0.mk (Kd.R_lower ho0 (below_size bz));have n1_ := Aside0.mk (below_step bz hb);clear HB;have HO553 := n0_;have HB := n1_;clear n0_ n1_;(try clear hb);(try clear hb2);(try clear hk);(try clear hi);(try clear ho0);obtain ⟨Ao47,co47,eo47⟩ := Kd.R_slice HO553.out;subst eo47)|((with_reducible refine gate_callee (f := 26) rfl ?_);refine goesL_ (some 20) rfl rfl Try.func26 (by kernel_rfl) rfl #[.slice Ao47 t551.length co47] rfl az ?_;(with_reducible refine (impl_OrdDepth.calls kj2 _ _ t551 t554 _ ?side1 ?side2 A7.out).mono ?_);(case side1 => exact Kd.Cz (Kd.R_reads' HO553.out).2.2);(case side2 => exact (Kd.R_reads' HO553.out).2.1);rintro e w48 ⟨rfl,hb⟩;refine ⟨_,rfl,?_⟩;have n0_ := Aside0.mk (Kd.R_below (Kd.Rz HO553.out) hb);have n1_ := Aside0.mk (below_step bz hb);clear HO553;clear HB;have HO553 := n0_;have HB := n1_;clear n0_ n1_;(try clear hb);(try clear hb2);(try clear hk);(try clear hi))|((with_reducible refine gate_callee (f := 27) rfl ?_);refine goesL_ (some 23) rfl rfl Try.func27 (by kernel_rfl) rfl #[.slice Ao47 t551.length co47] rfl az ?_;(with_reducible refine (spec_OrdDepth.calls kj2 (fun k_ => some k_ = (.slice Ao47 t551.length co47 : Value).ownBlock) _ _ t551 t555 _ ?side1 A8.out).mono ?_);(case side1 => exact Kd.R_V (Kd.R_tight rfl (HO553.out)));rintro e w49 ⟨rfl,hb⟩;refine ⟨_,rfl,?_⟩;have n0_ := Aside0.mk (Kd.R_below (Kd.Rz HO553.out) hb);have n1_ := Aside0.mk (below_step bz hb);clear HO553;clear HB;have HO553 := n0_;have HB := n1_;clear n0_ n1_;(try clear hb);(try clear hb2);(try clear hk);(try clear hi))|((with_reducible refine gate_callee (f := 25) rfl ?_);refine goesL_ (some 38) rfl rfl Try.func25 (by kernel_rfl) rfl #[.slice A1 l1.length c1] rfl az ?_;(with_reducible refine (spec_DrawOrdDepth.calls kj2 _ _ l1 t558 _ ?side1 ?side2 A30.out).mono ?_);(case side1 => exact Kd.Cz (Kd.C_below HR1.out HB.out));(case side2 => exact HC1.out);rintro e w50 ⟨v559,rfl,ho0,hb⟩;refine ⟨_,rfl,?_⟩;have n0_ := Aside0.mk (Kd.R_elder' (Kd.Rz HO553.out) (Kd.R_base ho0) hb);have n1_ := Aside0.mk (Kd.R_lower (Kd.R_new' ho0 (Kd.R_lt (Kd.Rz HO553.out))) (below_size bz));have n2_ := Aside0.mk (below_step bz hb);clear HO553;clear HB;have HO553 := n0_;have HO560 := n1_;have HB := n2_;clear n0_ n1_ n2_;(try clear hb);(try clear hb2);(try clear hk);(try clear hi);(try clear ho0);obtain ⟨Ao51,co51,eo51⟩ := Kd.R_slice HO560.out;subst eo51)|((with_reducible refine gate_callee (f := 26) rfl ?_);refine goesL_ (some 40) rfl rfl Try.func26 (by kernel_rfl) rfl #[.slice Ao51 t558.length co51] rfl az ?_;(with_reducible refine (impl_OrdDepth.calls kj2 _ _ t558 t561 _ ?side1 ?side2 A31.out).mono ?_);(case side1 => exact Kd.Cz (Kd.R_reads' HO560.out).2.2);(case side2 => exact (Kd.R_reads' HO560.out).2.1);rintro e w52 ⟨rfl,hb⟩;refine ⟨_,rfl,?_⟩;have n0_ := Aside0.mk (Kd.R_below (Kd.Rz HO553.out) hb);have n1_ := Aside0.mk (Kd.R_below (Kd.Rz HO560.out) hb);have n2_ := Aside0.mk (below_step bz hb);clear HO553;clear HO560;clear HB;have HO553 := n0_;have HO560 := n1_;have HB := n2_;clear n0_ n1_ n2_;(try clear hb);(try clear hb2);(try clear hk);(try clear hi))|((with_reducible refine gate_dst (N := 44) rfl ?_);refine Kd.R_lit (Kd.int .i64) _ 3 ?hg (N := 44) ?hd (xs := ([0] : List Int)) (inner := [.int .i64 0]) (ok := fun _ => True) (okp := fun _ => True) ?hr ?hp (fun _ hk => hk) trivial (Below.refl _ _) (Nat.le_refl _) (by simp) ?_;(case hd => rfl);(case hg => rfl);(case hr => first|(go_simp;done)|(go_simp;rfl));(case hp => exact (Reps.one (show Kd.M (Kd.int .i64) _ _ _ 0 [.int .i64 0] from rfl) (Reps.none _ _)));intro v563 w53 ho54 hb hg_ hnew_;clear hg_ hnew_;(first|rw [← Ny562.out] at ho54|(simp only [Int.reduceToNat] at ho54;rw [← Ny562.out] at ho54));have n0_ := Aside0.mk (Kd.R_elder' (Kd.Rz HO553.out) (Kd.R_base ho54) hb);have n1_ := Aside0.mk (Kd.R_elder' (Kd.Rz HO560.out) (Kd.R_base ho54) hb);have n2_ := Aside0.mk (Kd.R_lower (Kd.R_new' (Kd.R_new' ho54 (Kd.R_lt (Kd.Rz HO553.out))) (Kd.R_lt (Kd.Rz HO560.out))) (below_size bz));have n3_ := Aside0.mk (below_step bz hb);clear HO553;clear HO560;clear HB;have HO553 := n0_;have HO560 := n1_;have HO564 := n2_;have HB := n3_;clear n0_ n1_ n2_ n3_;clear hb ho54;obtain ⟨Ao55,co55,eo55⟩ := Kd.R_slice HO564.out;subst eo55)|((with_reducible refine gate_callee (f := 17) rfl ?_);refine goesL_ (some 45) rfl rfl Try.func17 (by kernel_rfl) rfl #[.slice Ao47 t551.length co47,.slice Ao55 y562.length co55] rfl az ?_;(with_reducible refine (laws_sameInts.calls kj2 _ _ t551 _ _ y562 t565 _ ?side1 ?side2 ?side3 ?side4 A32.out).mono ?_);(case side1 => exact Kd.Cz (Kd.R_reads' HO553.out).2.2);(case side2 => exact (Kd.R_reads' HO553.out).2.1);(case side3 => exact Kd.Cz (Kd.R_reads' HO564.out).2.2);(case side4 => exact (Kd.R_reads' HO564.out).2.1);rintro e w' ⟨rfl,⟨nd,rfl⟩⟩;refine ⟨_,rfl,?_⟩))
         go_ret
         exact ⟨by first|rfl|(simp [errW_none,errW_some] <;> rfl)|(simp [*,errW_none,errW_some] <;> rfl),bz⟩
        ·rw [if_neg c45] at H
         have c45b0 : decide (t554 ≤ t561) = false := decide_eq_false c45
         clear c45
         replace H := Option.bind_eq_some_iff.mp H
         obtain ⟨t566,A560,H⟩ := H
         replace H : (some (t566 == (-1))) = some r := H
         have A56 := Aside0.mk A560
         clear A560
         obtain rfl := Option.some.inj H
         go_wp2_with (first|((with_reducible refine gate_callee (f := 25) rfl ?_);refine goesL_ (some 18) rfl rfl Try.func25 (by kernel_rfl) rfl #[.slice A0 l0.length c0] rfl az ?_;(with_reducible refine (spec_DrawOrdDepth.calls kj2 _ _ l0 t551 _ ?side1 ?side2 A6.out).mono ?_);(case side1 => exact Kd.Cz (Kd.C_below HR0.out HB.out));(case side2 => exact HC0.out);rintro e w57 ⟨v552,rfl,ho0,hb⟩;refine ⟨_,rfl,?_⟩;have n0_ := Aside0.mk (Kd.R_lower ho0 (below_size bz));have n1_ := Aside0.mk (below_step bz hb);clear HB;have HO553 := n0_;have HB := n1_;clear n0_ n1_;(try clear hb);(try clear hb2);(try clear hk);(try clear hi);(try clear ho0);obtain ⟨Ao58,co58,eo58⟩ := Kd.R_slice HO553.out;subst eo58)|((with_reducible refine gate_callee (f := 26) rfl ?_);refine goesL_ (some 20) rfl rfl Try.func26 (by kernel_rfl) rfl #[.slice Ao58 t551.length co58] rfl az ?_;(with_reducible refine (impl_OrdDepth.calls kj2 _ _ t551 t554 _ ?side1 ?side2 A7.out).mono ?_);(case side1 => exact Kd.Cz (Kd.R_reads' HO553.out).2.2);(case side2 => exact (Kd.R_reads' HO553.out).2.1);rintro e w59 ⟨rfl,hb⟩;refine ⟨_,rfl,?_⟩;have n0_ := Aside0.mk (Kd.R_below (Kd.Rz HO553.out) hb);have n1_ := Aside0.mk (below_step bz hb);clear HO553;clear HB;have HO553 := n0_;have HB := n1_;clear n0_ n1_;(try clear hb);(try clear hb2);(try clear hk);(try clear hi))|((with_reducible refine gate_callee (f := 27) rfl ?_);refine goesL_ (some 23) rfl rfl Try.func27 (by kernel_rfl) rfl #[.slice Ao58 t551.length co58] rfl az ?_;(with_reducible refine (spec_OrdDepth.calls kj2 (fun k_ => some k_ = (.slice Ao58 t551.length co58 : Value).ownBlock) _ _ t551 t555 _ ?side1 A8.out).mono ?_);(case side1 => exact Kd.R_V (Kd.R_tight rfl (HO553.out)));rintro e w60 ⟨rfl,hb⟩;refine ⟨_,rfl,?_⟩;have n0_ := Aside0.mk (Kd.R_below (Kd.Rz HO553.out) hb);have n1_ := Aside0.mk (below_step bz hb);clear HO553;clear HB;have HO553 := n0_;have HB := n1_;clear n0_ n1_;(try clear hb);(try clear hb2);(try clear hk);(try clear hi))|((with_reducible refine gate_callee (f := 25) rfl ?_);refine goesL_ (some 38) rfl rfl Try.func25 (by kernel_rfl) rfl #[.slice A1 l1.length c1] rfl az ?_;(with_reducible refine (spec_DrawOrdDepth.calls kj2 _ _ l1 t558 _ ?side1 ?side2 A30.out).mono ?_);(case side1 => exact Kd.Cz (Kd.C_below HR1.out HB.out));(case side2 => exact HC1.out);rintro e w61 ⟨v559,rfl,ho0,hb⟩;refine ⟨_,rfl,?_⟩;have n0_ := Aside0.mk (Kd.R_elder' (Kd.Rz HO553.out) (Kd.R_base ho0) hb);have n1_ := Aside0.mk (Kd.R_lower (Kd.R_new' ho0 (Kd.R_lt (Kd.Rz HO553.out))) (below_size bz));have n2_ := Aside0.mk (below_step bz hb);clear HO553;clear HB;have HO553 := n0_;have HO560 := n1_;have HB := n2_;clear n0_ n1_ n2_;(try clear hb);(try clear hb2);(try clear hk);(try clear hi);(try clear ho0);obtain ⟨Ao62,co62,eo62⟩ := Kd.R_slice HO560.out;subst eo62)|((with_reducible refine gate_callee (f := 26) rfl ?_);refine goesL_ (some 40) rfl rfl Try.func26 (by kernel_rfl) rfl #[.slice Ao62 t558.length co62] rfl az ?_;(with_reducible refine (impl_OrdDepth.calls kj2 _ _ t558 t561 _ ?side1 ?side2 A31.out).mono ?_);(case side1 => exact Kd.Cz (Kd.R_reads' HO560.out).2.2);(case side2 => exact (Kd.R_reads' HO560.out).2.1);rintro e w63 ⟨rfl,hb⟩;refine ⟨_,rfl,?_⟩;have n0_ := Aside0.mk (Kd.R_below (Kd.Rz HO553.out) hb);have n1_ := Aside0.mk (Kd.R_below (Kd.Rz HO560.out) hb);have n2_ := Aside0.mk (below_step bz hb);clear HO553;clear HO560;clear HB;have HO553 := n0_;have HO560 := n1_;have HB := n2_;clear n0_ n1_ n2_;(try clear hb);(try clear hb2);(try clear hk);(try clear hi))|((with_reducible refine gate_dst (N := 44) rfl ?_);refine Kd.R_lit (Kd.int .i64) _ 3 ?hg (N := 44) ?hd (xs := ([0] : List Int)) (inner := [.int .i64 0]) (ok := fun _ => True) (okp := fun _ => True) ?hr ?hp (fun _ hk => hk) trivial (Below.refl _ _) (Nat.le_refl _) (by simp) ?_;(case hd => rfl);(case hg => rfl);(case hr => first|(go_simp;done)|(go_simp;rfl));(case hp => exact (Reps.one (show Kd.M (Kd.int .i64) _ _ _ 0 [.int .i64 0] from rfl) (Reps.none _ _)));intro v563 w64 ho65 hb hg_ hnew_;clear hg_ hnew_;(first|rw [← Ny562.out] at ho65|(simp only [Int.reduceToNat] at ho65;rw [← Ny562.out] at ho65));have n0_ := Aside0.mk (Kd.R_elder' (Kd.Rz HO553.out) (Kd.R_base ho65) hb);have n1_ := Aside0.mk (Kd.R_elder' (Kd.Rz HO560.out) (Kd.R_base ho65) hb);have n2_ := Aside0.mk (Kd.R_lower (Kd.R_new' (Kd.R_new' ho65 (Kd.R_lt (Kd.Rz HO553.out))) (Kd.R_lt (Kd.Rz HO560.out))) (below_size bz));have n3_ := Aside0.mk (below_step bz hb);clear HO553;clear HO560;clear HB;have HO553 := n0_;have HO560 := n1_;have HO564 := n2_;have HB := n3_;clear n0_ n1_ n2_ n3_;clear hb ho65;obtain ⟨Ao66,co66,eo66⟩ := Kd.R_slice HO564.out;subst eo66)|((with_reducible refine gate_callee (f := 17) rfl ?_);refine goesL_ (some 45) rfl rfl Try.func17 (by kernel_rfl) rfl #[.slice Ao58 t551.length co58,.slice Ao66 y562.length co66] rfl az ?_;(with_reducible refine (laws_sameInts.calls kj2 _ _ t551 _ _ y562 t565 _ ?side1 ?side2 ?side3 ?side4 A32.out).mono ?_);(case side1 => exact Kd.Cz (Kd.R_reads' HO553.out).2.2);(case side2 => exact (Kd.R_reads' HO553.out).2.1);(case side3 => exact Kd.Cz (Kd.R_reads' HO564.out).2.2);(case side4 => exact (Kd.R_reads' HO564.out).2.1);rintro e w' ⟨rfl,⟨nd,rfl⟩⟩;refine ⟨_,rfl,?_⟩)|(go_at_call 28;(with_reducible refine (impl_OrdCompare.calls kj2 _ _ t558 _ _ t551 t566 _ ?side1 ?side2 ?side3 ?side4 A56.out).mono ?_);(case side1 => exact Kd.Cz (Kd.R_reads' HO560.out).2.2);(case side2 => exact (Kd.R_reads' HO560.out).2.1);(case side3 => exact Kd.Cz (Kd.R_reads' HO553.out).2.2);(case side4 => exact (Kd.R_reads' HO553.out).2.1);rintro e w67 ⟨rfl,hb⟩;have n0_ := Aside0.mk (Kd.R_below (Kd.Rz HO553.out) hb);have n1_ := Aside0.mk (Kd.R_below (Kd.Rz HO560.out) hb);have n2_ := Aside0.mk (Kd.R_below (Kd.Rz HO564.out) hb);have n3_ := Aside0.mk (below_step bz hb);clear HO553;clear HO560;clear HO564;clear HB;have HO553 := n0_;have HO560 := n1_;have HO564 := n2_;have HB := n3_;clear n0_ n1_ n2_ n3_;(try clear hb);(try clear hb2);(try clear hk);(try clear hi)))
         go_ret
         exact ⟨by first|rfl|(simp [errW_none,errW_some] <;> rfl)|(simp [*,errW_none,errW_some] <;> rfl),bz⟩
      ·rw [if_neg c33] at H
       have c33b0 : ((t554 == 0) == t565) = false := by simpa using c33
       (try (have c33b1 : decide ((t554 == 0) = t565) = false := by simpa using c33))
       (try (have c33b2 : ((t554 == 0) == t565) = false := by simpa using c33))
       (try (have c33b3 : ¬ ((t554 == 0) = t565) := by simpa using c33))
       clear c33
       obtain rfl := Option.some.inj H
       go_wp2_with (first|((with_reducible refine gate_callee (f := 25) rfl ?_);refine goesL_ (some 18) rfl rfl Try.func25 (by kernel_rfl) rfl #[.slice A0 l0.length c0] rfl az ?_;(with_reducible refine (spec_DrawOrdDepth.calls kj2 _ _ l0 t551 _ ?side1 ?side2 A6.out).mono ?_);(case side1 => exact Kd.Cz (Kd.C_below HR0.out HB.out));(case side2 => exact HC0.out);rintro e w68 ⟨v552,rfl,ho0,hb⟩;refine ⟨_,rfl,?_⟩;have n0_ := Aside0.mk (Kd.R_lower ho0 (below_size bz));have n1_ := Aside0.mk (below_step bz hb);clear HB;have HO553 := n0_;have HB := n1_;clear n0_ n1_;(try clear hb);(try clear hb2);(try clear hk);(try clear hi);(try clear ho0);obtain ⟨Ao69,co69,eo69⟩ := Kd.R_slice HO553.out;subst eo69)|((with_reducible refine gate_callee (f := 26) rfl ?_);refine goesL_ (some 20) rfl rfl Try.func26 (by kernel_rfl) rfl #[.slice Ao69 t551.length co69] rfl az ?_;(with_reducible refine (impl_OrdDepth.calls kj2 _ _ t551 t554 _ ?side1 ?side2 A7.out).mono ?_);(case side1 => exact Kd.Cz (Kd.R_reads' HO553.out).2.2);(case side2 => exact (Kd.R_reads' HO553.out).2.1);rintro e w70 ⟨rfl,hb⟩;refine ⟨_,rfl,?_⟩;have n0_ := Aside0.mk (Kd.R_below (Kd.Rz HO553.out) hb);have n1_ := Aside0.mk (below_step bz hb);clear HO553;clear HB;have HO553 := n0_;have HB := n1_;clear n0_ n1_;(try clear hb);(try clear hb2);(try clear hk);(try clear hi))|((with_reducible refine gate_callee (f := 27) rfl ?_);refine goesL_ (some 23) rfl rfl Try.func27 (by kernel_rfl) rfl #[.slice Ao69 t551.length co69] rfl az ?_;(with_reducible refine (spec_OrdDepth.calls kj2 (fun k_ => some k_ = (.slice Ao69 t551.length co69 : Value).ownBlock) _ _ t551 t555 _ ?side1 A8.out).mono ?_);(case side1 => exact Kd.R_V (Kd.R_tight rfl (HO553.out)));rintro e w71 ⟨rfl,hb⟩;refine ⟨_,rfl,?_⟩;have n0_ := Aside0.mk (Kd.R_below (Kd.Rz HO553.out) hb);have n1_ := Aside0.mk (below_step bz hb);clear HO553;clear HB;have HO553 := n0_;have HB := n1_;clear n0_ n1_;(try clear hb);(try clear hb2);(try clear hk);(try clear hi))|((with_reducible refine gate_callee (f := 25) rfl ?_);refine goesL_ (some 38) rfl rfl Try.func25 (by kernel_rfl) rfl #[.slice A1 l1.length c1] rfl az ?_;(with_reducible refine (spec_DrawOrdDepth.calls kj2 _ _ l1 t558 _ ?side1 ?side2 A30.out).mono ?_);(case side1 => exact Kd.Cz (Kd.C_below HR1.out HB.out));(case side2 => exact HC1.out);rintro e w72 ⟨v559,rfl,ho0,hb⟩;refine ⟨_,rfl,?_⟩;have n0_ := Aside0.mk (Kd.R_elder' (Kd.Rz HO553.out) (Kd.R_base ho0) hb);have n1_ := Aside0.mk (Kd.R_lower (Kd.R_new' ho0 (Kd.R_lt (Kd.Rz HO553.out))) (below_size bz));have n2_ := Aside0.mk (below_step bz hb);clear HO553;clear HB;have HO553 := n0_;have HO560 := n1_;have HB := n2_;clear n0_ n1_ n2_;(try clear hb);(try clear hb2);(try clear hk);(try clear hi);(try clear ho0);obtain ⟨Ao73,co73,eo73⟩ := Kd.R_slice HO560.out;subst eo73)|((with_reducible refine gate_callee (f := 26) rfl ?_);refine goesL_ (some 40) rfl rfl Try.func26 (by kernel_rfl) rfl #[.slice Ao73 t558.length co73] rfl az ?_;(with_reducible refine (impl_OrdDepth.calls kj2 _ _ t558 t561 _ ?side1 ?side2 A31.out).mono ?_);(case side1 => exact Kd.Cz (Kd.R_reads' HO560.out).2.2);(case side2 => exact (Kd.R_reads' HO560.out).2.1);rintro e w74 ⟨rfl,hb⟩;refine ⟨_,rfl,?_⟩;have n0_ := Aside0.mk (Kd.R_below (Kd.Rz HO553.out) hb);have n1_ := Aside0.mk (Kd.R_below (Kd.Rz HO560.out) hb);have n2_ := Aside0.mk (below_step bz hb);clear HO553;clear HO560;clear HB;have HO553 := n0_;have HO560 := n1_;have HB := n2_;clear n0_ n1_ n2_;(try clear hb);(try clear hb2);(try clear hk);(try clear hi))|((with_reducible refine gate_dst (N := 44) rfl ?_);refine Kd.R_lit (Kd.int .i64) _ 3 ?hg (N := 44) ?hd (xs := ([0] : List Int)) (inner := [.int .i64 0]) (ok := fun _ => True) (okp := fun _ => True) ?hr ?hp (fun _ hk => hk) trivial (Below.refl _ _) (Nat.le_refl _) (by simp) ?_;(case hd => rfl);(case hg => rfl);(case hr => first|(go_simp;done)|(go_simp;rfl));(case hp => exact (Reps.one (show Kd.M (Kd.int .i64) _ _ _ 0 [.int .i64 0] from rfl) (Reps.none _ _)));intro v563 w75 ho76 hb hg_ hnew_;clear hg_ hnew_;(first|rw [← Ny562.out] at ho76|(simp only [Int.reduceToNat] at ho76;rw [← Ny562.out] at ho76));have n0_ := Aside0.mk (Kd.R_elder' (Kd.Rz HO553.out) (Kd.R_base ho76) hb);have n1_ := Aside0.mk (Kd.R_elder' (Kd.Rz HO560.out) (Kd.R_base ho76) hb);have n2_ := Aside0.mk (Kd.R_lower (Kd.R_new' (Kd.R_new' ho76 (Kd.R_lt (Kd.Rz HO553.out))) (Kd.R_lt (Kd.Rz HO560.out))) (below_size bz));have n3_ := Aside0.mk (below_step bz hb);clear HO553;clear HO560;clear HB;have HO553 := n0_;have HO560 := n1_;have HO564 := n2_;have HB := n3_;clear n0_ n1_ n2_ n3_;clear hb ho76;obtain ⟨Ao77,co77,eo77⟩ := Kd.R_slice HO564.out;subst eo77)|((with_reducible refine gate_callee (f := 17) rfl ?_);refine goesL_ (some 45) rfl rfl Try.func17 (by kernel_rfl) rfl #[.slice Ao69 t551.length co69,.slice Ao77 y562.length co77] rfl az ?_;(with_reducible refine (laws_sameInts.calls kj2 _ _ t551 _ _ y562 t565 _ ?side1 ?side2 ?side3 ?side4 A32.out).mono ?_);(case side1 => exact Kd.Cz (Kd.R_reads' HO553.out).2.2);(case side2 => exact (Kd.R_reads' HO553.out).2.1);(case side3 => exact Kd.Cz (Kd.R_reads' HO564.out).2.2);(case side4 => exact (Kd.R_reads' HO564.out).2.1);rintro e w' ⟨rfl,⟨nd,rfl⟩⟩;refine ⟨_,rfl,?_⟩))
       go_ret
       exact ⟨by first|rfl|(simp [errW_none,errW_some] <;> rfl)|(simp [*,errW_none,errW_some] <;> rfl),bz⟩
    ·rw [if_neg c9] at H
     have c9b0 : (t554 == t555) = false := beq_eq_false_iff_ne.mpr c9
     have c9b1 : (t554 != t555) = true := bne_iff_ne.mpr c9
     obtain rfl := Option.some.inj H
     go_wp2_with (first|((with_reducible refine gate_callee (f := 25) rfl ?_);refine goesL_ (some 18) rfl rfl Try.func25 (by kernel_rfl) rfl #[.slice A0 l0.length c0] rfl az ?_;(with_reducible refine (spec_DrawOrdDepth.calls kj2 _ _ l0 t551 _ ?side1 ?side2 A6.out).mono ?_);(case side1 => exact Kd.Cz (Kd.C_below HR0.out HB.out));(case side2 => exact HC0.out);rintro e w78 ⟨v552,rfl,ho0,hb⟩;refine ⟨_,rfl,?_⟩;have n0_ := Aside0.mk (Kd.R_lower ho0 (below_size bz));have n1_ := Aside0.mk (below_step bz hb);clear HB;have HO553 := n0_;have HB := n1_;clear n0_ n1_;(try clear hb);(try clear hb2);(try clear hk);(try clear hi);(try clear ho0);obtain ⟨Ao79,co79,eo79⟩ := Kd.R_slice HO553.out;subst eo79)|((with_reducible refine gate_callee (f := 26) rfl ?_);refine goesL_ (some 20) rfl rfl Try.func26 (by kernel_rfl) rfl #[.slice Ao79 t551.length co79] rfl az ?_;(with_reducible refine (impl_OrdDepth.calls kj2 _ _ t551 t554 _ ?side1 ?side2 A7.out).mono ?_);(case side1 => exact Kd.Cz (Kd.R_reads' HO553.out).2.2);(case side2 => exact (Kd.R_reads' HO553.out).2.1);rintro e w80 ⟨rfl,hb⟩;refine ⟨_,rfl,?_⟩;have n0_ := Aside0.mk (Kd.R_below (Kd.Rz HO553.out) hb);have n1_ := Aside0.mk (below_step bz hb);clear HO553;clear HB;have HO553 := n0_;have HB := n1_;clear n0_ n1_;(try clear hb);(try clear hb2);(try clear hk);(try clear hi))|((with_reducible refine gate_callee (f := 27) rfl ?_);refine goesL_ (some 23) rfl rfl Try.func27 (by kernel_rfl) rfl #[.slice Ao79 t551.length co79] rfl az ?_;(with_reducible refine (spec_OrdDepth.calls kj2 (fun k_ => some k_ = (.slice Ao79 t551.length co79 : Value).ownBlock) _ _ t551 t555 _ ?side1 A8.out).mono ?_);(case side1 => exact Kd.R_V (Kd.R_tight rfl (HO553.out)));rintro e w81 ⟨rfl,hb⟩;refine ⟨_,rfl,?_⟩;have n0_ := Aside0.mk (Kd.R_below (Kd.Rz HO553.out) hb);have n1_ := Aside0.mk (below_step bz hb);clear HO553;clear HB;have HO553 := n0_;have HB := n1_;clear n0_ n1_;(try clear hb);(try clear hb2);(try clear hk);(try clear hi)))
     go_ret
     exact ⟨by first|rfl|(simp [errW_none,errW_some] <;> rfl)|(simp [*,errW_none,errW_some] <;> rfl),bz⟩

/-- THE ONE PURE STATEMENT of laws_FnOrdDepth: yours. -/
def laws_FnOrdDepth.Pure : Prop := ∀ (l0 : List Int) (l1 : List Int),l0.length ≤ maxLen → l0.length * 1 ≤ 140737488351232 → (∀ x ∈ l0,(Lit.int .u8 x).wf = true) → l1.length ≤ maxLen → l1.length * 1 ≤ 140737488351232 → (∀ x ∈ l1,(Lit.int .u8 x).wf = true) → ∃ k,laws_FnOrdDepth.f k l0 l1 = some true
theorem laws_FnOrdDepth.walk (P : laws_FnOrdDepth.Pure) (a0 : Option Addr) (len0 cap0 : Nat) (z0 : List Int) (a1 : Option Addr) (len1 cap1 : Nat) (z1 : List Int) (w : World) (w0 : (a0 = none ∧ len0 = 0 ∧ cap0 = 0 ∧ z0 = []) ∨ ∃ x,a0 = some x ∧ len0 ≤ cap0 ∧ cap0 ≤ maxLen ∧ z0.length = cap0 ∧ (∀ i,i < z0.length → w.cell? (x.add i) = some (.int .u8 (z0.getD i 0))) ∧ ∀ n ∈ z0,(Lit.int .u8 n).wf = true) (y0 : len0 * 1 ≤ 140737488351232) (w1 : (a1 = none ∧ len1 = 0 ∧ cap1 = 0 ∧ z1 = []) ∨ ∃ x,a1 = some x ∧ len1 ≤ cap1 ∧ cap1 ≤ maxLen ∧ z1.length = cap1 ∧ (∀ i,i < z1.length → w.cell? (x.add i) = some (.int .u8 (z1.getD i 0))) ∧ ∀ n ∈ z1,(Lit.int .u8 n).wf = true) (y1 : len1 * 1 ≤ 140737488351232) :
  Calls Try.prog 5 #[.slice a0 len0 cap0,.slice a1 len1 cap1] w fun e w' => e = .returned (.bool true) ∧ Below w.heap.size w w' := by
 obtain ⟨l0,rfl,hr0,hm0,hw0,hc0⟩ := ReadsInt.ofRowC w0
 obtain ⟨l1,rfl,hr1,hm1,hw1,hc1⟩ := ReadsInt.ofRowC w1
 obtain ⟨k,h⟩ := P l0 l1 hm0 y0 hw0 hm1 y1 hw1
 refine (laws_FnOrdDepth.calls k _ _ l0 _ _ l1 true w (Kd.C_of_reads (d := (0 : Int)) (h1 := fun _ => rfl) hr0) hc0 (Kd.C_of_reads (d := (0 : Int)) (h1 := fun _ => rfl) hr1) hc1 h).mono ?_
 rintro e w' ⟨rfl,hd⟩
 exact ⟨rfl,hd⟩

end Go.Proofs.Ytninfokihgbgpaa.P
