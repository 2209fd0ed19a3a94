/- The walk of one Go function that the law reaches: it comes to what the Lean function of its name tells. -/
import Derived.Test.YtninfokihgbgpaaP0
import Derived.Test.YtninfokihgbgpaaPimplOrdCompare
import Derived.Test.YtninfokihgbgpaaPlawsalive
import Derived.Test.YtninfokihgbgpaaPlawssameInts
import Derived.Test.YtninfokihgbgpaaPspecDrawOrdCompare
import Derived.Test.YtninfokihgbgpaaPspecOrdCompare
import Derived.Test.YtninfokihgbgpaaPspecOrdValid
namespace Go.Proofs.Ytninfokihgbgpaa.P
open Go.RowKit Go.Proofs.YtninfokihgbgpaaW.PrintWords Go.Proofs.YtninfokihgbgpaaW.PrintLast Go.Proofs.YtninfokihgbgpaaW.PrintMore
attribute [local go_sem] max2_int min2_int max_two min_two max_three min_three max_four min_four   
set_option linter.unusedVariables false
set_option linter.unusedSimpArgs false

/-! ### laws_FnOrdCompare: function 7 -/
mutual
def laws_FnOrdCompare.j0 : Nat → List Int → List Int → Bool → Option (Bool)
 | 0,_,_,_ => none
 | k + 1,x0,x1,x17 => if x17 = true then (some true) else ((spec_DrawOrdCompare.f k x0).bind fun bt673 => ((impl_OrdCompare.f k bt673.1 bt673.2).bind fun t679 => ((spec_OrdCompare.f k bt673.1 bt673.2).bind fun t680 => (if t679 = t680 then (if t679 = (-2) then ((laws_alive.f k).bind fun t681 => (some t681)) else ((spec_DrawOrdCompare.f k x1).bind fun bt682 => ((spec_OrdValid.f k bt682.1).bind fun t688 => (if t688 = true then (if t679 = (-1) then ((impl_OrdCompare.f k bt673.2 bt682.1).bind fun t689 => (if t689 = (-1) then ((impl_OrdCompare.f k bt673.1 bt682.1).bind fun t690 => (laws_FnOrdCompare.j1 k bt673.1 bt673.2 t679 bt682.2 (t690 != (-1)))) else (laws_FnOrdCompare.j1 k bt673.1 bt673.2 t679 bt682.2 false))) else (laws_FnOrdCompare.j1 k bt673.1 bt673.2 t679 bt682.2 false)) else (laws_FnOrdCompare.j1 k bt673.1 bt673.2 t679 bt682.2 false))))) else (some false)))))
def laws_FnOrdCompare.j1 : Nat → List Int → List Int → Int → List Int → Bool → Option (Bool)
 | 0,_,_,_,_,_ => none
 | k + 1,x5,x6,x7,x9,x56 => if x56 = true then (some false) else ((spec_OrdValid.f k x9).bind fun t691 => (if t691 = true then (if x7 = 1 then ((impl_OrdCompare.f k x6 x9).bind fun t692 => (if t692 = 1 then ((impl_OrdCompare.f k x5 x9).bind fun t693 => (laws_FnOrdCompare.j2 k x5 x6 x7 (t693 != 1))) else (laws_FnOrdCompare.j2 k x5 x6 x7 false))) else (laws_FnOrdCompare.j2 k x5 x6 x7 false)) else (laws_FnOrdCompare.j2 k x5 x6 x7 false)))
def laws_FnOrdCompare.j2 : Nat → List Int → List Int → Int → Bool → Option (Bool)
 | 0,_,_,_,_ => none
 | k + 1,x5,x6,x7,x74 => if x74 = true then (some false) else ((impl_OrdCompare.f k x6 x5).bind fun t694 => (if t694 = (wrap64 (-x7)) then ((laws_sameInts.f k x5 x6).bind fun t695 => (some ((x7 == 0) == t695))) else (some false)))
end
def laws_FnOrdCompare.f (k : Nat) (l0 : List Int) (l1 : List Int) : Option (Bool) := if (l0.length : Int) > 1048576 then (laws_FnOrdCompare.j0 k l0 l1 true) else (laws_FnOrdCompare.j0 k l0 l1 (decide ((l1.length : Int) > 1048576)))
theorem laws_FnOrdCompare.mono_l : ∀ k,(∀ y0 y1 y2,LeO (laws_FnOrdCompare.j0 k y0 y1 y2) (laws_FnOrdCompare.j0 (k + 1) y0 y1 y2)) ∧ (∀ y0 y1 y2 y3 y4,LeO (laws_FnOrdCompare.j1 k y0 y1 y2 y3 y4) (laws_FnOrdCompare.j1 (k + 1) y0 y1 y2 y3 y4)) ∧ (∀ y0 y1 y2 y3,LeO (laws_FnOrdCompare.j2 k y0 y1 y2 y3) (laws_FnOrdCompare.j2 (k + 1) y0 y1 y2 y3))
 | 0 => ⟨fun _ _ _ r h => by simp [laws_FnOrdCompare.j0] at h,fun _ _ _ _ _ r h => by simp [laws_FnOrdCompare.j1] at h,fun _ _ _ _ r h => by simp [laws_FnOrdCompare.j2] at h⟩
 | k + 1 => by
  obtain ⟨ih0,ih1,ih2⟩ := laws_FnOrdCompare.mono_l k
  refine ⟨?_,?_,?_⟩
  ·intro y0 y1 y2
   unfold laws_FnOrdCompare.j0
   repeat' first|(with_reducible first|exact ih0 _ _ _|exact ih1 _ _ _ _ _|exact impl_OrdCompare.mono _ _ _|exact laws_alive.mono _|exact spec_DrawOrdCompare.mono _ _|exact spec_OrdCompare.mono _ _ _|exact spec_OrdValid.mono _ _|exact LeO.refl _|exact LeO.none _|refine LeO.ite ?_ ?_|refine LeO.bind ?_ (fun _ => ?_))|exact ih0 _ _ _|exact ih1 _ _ _ _ _|exact impl_OrdCompare.mono _ _ _|exact laws_alive.mono _|exact spec_DrawOrdCompare.mono _ _|exact spec_OrdCompare.mono _ _ _|exact spec_OrdValid.mono _ _|exact LeO.none _|refine LeO.ite ?_ ?_|refine LeO.bind ?_ (fun _ => ?_)
  ·intro y0 y1 y2 y3 y4
   unfold laws_FnOrdCompare.j1
   repeat' first|(with_reducible first|exact ih1 _ _ _ _ _|exact ih2 _ _ _ _|exact impl_OrdCompare.mono _ _ _|exact spec_OrdValid.mono _ _|exact LeO.refl _|exact LeO.none _|refine LeO.ite ?_ ?_|refine LeO.bind ?_ (fun _ => ?_))|exact ih1 _ _ _ _ _|exact ih2 _ _ _ _|exact impl_OrdCompare.mono _ _ _|exact spec_OrdValid.mono _ _|exact LeO.none _|refine LeO.ite ?_ ?_|refine LeO.bind ?_ (fun _ => ?_)
  ·intro y0 y1 y2 y3
   unfold laws_FnOrdCompare.j2
   repeat' first|(with_reducible first|exact ih2 _ _ _ _|exact impl_OrdCompare.mono _ _ _|exact laws_sameInts.mono _ _ _|exact LeO.refl _|exact LeO.none _|refine LeO.ite ?_ ?_|refine LeO.bind ?_ (fun _ => ?_))|exact ih2 _ _ _ _|exact impl_OrdCompare.mono _ _ _|exact laws_sameInts.mono _ _ _|exact LeO.none _|refine LeO.ite ?_ ?_|refine LeO.bind ?_ (fun _ => ?_)
theorem laws_FnOrdCompare.mono : ∀ a0 a1 k,LeO (laws_FnOrdCompare.f k a0 a1) (laws_FnOrdCompare.f (k + 1) a0 a1) := by
 intro a0 a1 k
 obtain ⟨ih0,ih1,ih2⟩ := laws_FnOrdCompare.mono_l k
 unfold laws_FnOrdCompare.f
 repeat' first|(with_reducible first|exact ih0 _ _ _|exact ih1 _ _ _ _ _|exact ih2 _ _ _ _|exact LeO.refl _|exact LeO.none _|refine LeO.ite ?_ ?_|refine LeO.bind ?_ (fun _ => ?_))|exact ih0 _ _ _|exact ih1 _ _ _ _ _|exact ih2 _ _ _ _|exact LeO.none _|refine LeO.ite ?_ ?_|refine LeO.bind ?_ (fun _ => ?_)
set_option maxHeartbeats 8000000 in
set_option maxRecDepth 100000 in
theorem laws_FnOrdCompare.calls (k : Nat) (A0 : Option Addr) (c0 : Nat) (l0 : List Int) (A1 : Option Addr) (c1 : Nat) (l1 : List Int) (r : Bool) (w : World) (hr0 : Kd.C (Kd.int .u8) w A0 l0.length l0) (hc0 : l0.length ≤ c0) (hr1 : Kd.C (Kd.int .u8) w A1 l1.length l1) (hc1 : l1.length ≤ c1) (h : laws_FnOrdCompare.f k l0 l1 = some r) :
  Calls Try.prog 7 #[.slice A0 l0.length c0,.slice A1 l1.length c1] w fun e w' => e = .returned (.bool r) ∧ Below w.heap.size w w' := by
 have HR0 := Aside0.mk hr0
 have HC0 := Aside0.mk hc0
 clear hr0 hc0
 have HR1 := Aside0.mk hr1
 have HC1 := Aside0.mk hc1
 clear hr1 hc1
 have HB := Aside0.mk (Below.refl w.heap.size w)
 have H : (if (l0.length : Int) > 1048576 then (laws_FnOrdCompare.j0 k l0 l1 true) else (laws_FnOrdCompare.j0 k l0 l1 (decide ((l1.length : Int) > 1048576)))) = some r := h
 clear h
 have HC3 := Aside0.mk H
 clear H
 go_enter Try.func7,Try.ntmps7
 go_upto_region 1 with (fail)
 go_cut [17] (fun v17 wc => ∃ (kq : Nat) (x17_2 : Bool),v17 = .bool x17_2 ∧ Aside0 (laws_FnOrdCompare.j0 kq l0 l1 x17_2 = some r) ∧ Aside0 (kq ≤ k) ∧ Aside0 (Below w.heap.size w wc))
 case first =>
  have H := HC3.out
  clear HC3
  by_cases c4 : (l0.length : Int) > 1048576
  ·rw [if_pos c4] at H
   have c4b0 : decide (1048576 < (l0.length : Int)) = true := decide_eq_true c4
   have c4b1 : decide (1048576 < l0.length) = true := decide_eq_true (by omega)
   clear c4
   (first|rw [c4b0]|(simp only [i64_w,i32_w];rw [c4b0])|skip)
   have H' := Aside0.mk H
   clear H
   go_wp2
   go_meet
   case rel => exact ⟨_,(true),(by first|rfl|(simp;done)|(simp [*];done)),H',⟨by first|omega|exact Nat.le_refl _⟩,⟨bz⟩⟩
  ·rw [if_neg c4] at H
   have c4b0 : decide (1048576 < (l0.length : Int)) = false := decide_eq_false c4
   have c4b1 : decide (1048576 < l0.length) = false := decide_eq_false (by omega)
   clear c4
   (first|rw [c4b0]|(simp only [i64_w,i32_w];rw [c4b0])|skip)
   have H' := Aside0.mk H
   clear H
   go_wp2
   go_meet
   case rel => exact ⟨_,(decide ((l1.length : Int) > 1048576)),(by first|rfl|(simp;done)|(simp [*];done)),H',⟨by first|omega|exact Nat.le_refl _⟩,⟨bz⟩⟩
 case rest =>
  clear HC3
  try clear c1
  try clear p2
  try clear c4
  try clear c4b0
  try clear c4b1
  obtain ⟨kq,x17_2,rfl,HA,HJ2,HB⟩ := hcut
  cases kq with
  | zero => exact absurd HA.out (by simp [laws_FnOrdCompare.j0])
  | succ kj2 =>
   have H := HA.out
   clear HA
   simp only [laws_FnOrdCompare.j0] at H
   by_cases c5 : x17_2 = true
   ·subst c5
    have H1 : (some true) = some r := by rw [if_pos rfl] at H;exact H
    clear H
    have H := H1
    clear H1
    obtain rfl := Option.some.inj H
    go_wp2
    go_ret
    exact ⟨by first|rfl|(simp [errW_none,errW_some] <;> rfl)|(simp [*,errW_none,errW_some] <;> rfl),bz⟩
   ·replace c5 := Bool.eq_false_iff.mpr c5
    subst c5
    have H1 : ((spec_DrawOrdCompare.f kj2 l0).bind fun bt673 => ((impl_OrdCompare.f kj2 bt673.1 bt673.2).bind fun t679 => ((spec_OrdCompare.f kj2 bt673.1 bt673.2).bind fun t680 => (if t679 = t680 then (if t679 = (-2) then ((laws_alive.f kj2).bind fun t681 => (some t681)) else ((spec_DrawOrdCompare.f kj2 l1).bind fun bt682 => ((spec_OrdValid.f kj2 bt682.1).bind fun t688 => (if t688 = true then (if t679 = (-1) then ((impl_OrdCompare.f kj2 bt673.2 bt682.1).bind fun t689 => (if t689 = (-1) then ((impl_OrdCompare.f kj2 bt673.1 bt682.1).bind fun t690 => (laws_FnOrdCompare.j1 kj2 bt673.1 bt673.2 t679 bt682.2 (t690 != (-1)))) else (laws_FnOrdCompare.j1 kj2 bt673.1 bt673.2 t679 bt682.2 false))) else (laws_FnOrdCompare.j1 kj2 bt673.1 bt673.2 t679 bt682.2 false)) else (laws_FnOrdCompare.j1 kj2 bt673.1 bt673.2 t679 bt682.2 false))))) else (some false))))) = some r := by rw [if_neg (show ¬ (false = true) by decide)] at H;exact H
    clear H
    have H := H1
    clear H1
    replace H := Option.bind_eq_some_iff.mp H
    obtain ⟨⟨t673,t674⟩,A60,H⟩ := H
    replace H : ((impl_OrdCompare.f kj2 t673 t674).bind fun t679 => ((spec_OrdCompare.f kj2 t673 t674).bind fun t680 => (if t679 = t680 then (if t679 = (-2) then ((laws_alive.f kj2).bind fun t681 => (some t681)) else ((spec_DrawOrdCompare.f kj2 l1).bind fun bt682 => ((spec_OrdValid.f kj2 bt682.1).bind fun t688 => (if t688 = true then (if t679 = (-1) then ((impl_OrdCompare.f kj2 t674 bt682.1).bind fun t689 => (if t689 = (-1) then ((impl_OrdCompare.f kj2 t673 bt682.1).bind fun t690 => (laws_FnOrdCompare.j1 kj2 t673 t674 t679 bt682.2 (t690 != (-1)))) else (laws_FnOrdCompare.j1 kj2 t673 t674 t679 bt682.2 false))) else (laws_FnOrdCompare.j1 kj2 t673 t674 t679 bt682.2 false)) else (laws_FnOrdCompare.j1 kj2 t673 t674 t679 bt682.2 false))))) else (some false)))) = some r := H
    have A6 := Aside0.mk A60
    clear A60
    replace H := Option.bind_eq_some_iff.mp H
    obtain ⟨t679,A70,H⟩ := H
    replace H : ((spec_OrdCompare.f kj2 t673 t674).bind fun t680 => (if t679 = t680 then (if t679 = (-2) then ((laws_alive.f kj2).bind fun t681 => (some t681)) else ((spec_DrawOrdCompare.f kj2 l1).bind fun bt682 => ((spec_OrdValid.f kj2 bt682.1).bind fun t688 => (if t688 = true then (if t679 = (-1) then ((impl_OrdCompare.f kj2 t674 bt682.1).bind fun t689 => (if t689 = (-1) then ((impl_OrdCompare.f kj2 t673 bt682.1).bind fun t690 => (laws_FnOrdCompare.j1 kj2 t673 t674 t679 bt682.2 (t690 != (-1)))) else (laws_FnOrdCompare.j1 kj2 t673 t674 t679 bt682.2 false))) else (laws_FnOrdCompare.j1 kj2 t673 t674 t679 bt682.2 false)) else (laws_FnOrdCompare.j1 kj2 t673 t674 t679 bt682.2 false))))) else (some false))) = some r := H
    have A7 := Aside0.mk A70
    clear A70
    replace H := Option.bind_eq_some_iff.mp H
    obtain ⟨t680,A80,H⟩ := H
    replace H : (if t679 = t680 then (if t679 = (-2) then ((laws_alive.f kj2).bind fun t681 => (some t681)) else ((spec_DrawOrdCompare.f kj2 l1).bind fun bt682 => ((spec_OrdValid.f kj2 bt682.1).bind fun t688 => (if t688 = true then (if t679 = (-1) then ((impl_OrdCompare.f kj2 t674 bt682.1).bind fun t689 => (if t689 = (-1) then ((impl_OrdCompare.f kj2 t673 bt682.1).bind fun t690 => (laws_FnOrdCompare.j1 kj2 t673 t674 t679 bt682.2 (t690 != (-1)))) else (laws_FnOrdCompare.j1 kj2 t673 t674 t679 bt682.2 false))) else (laws_FnOrdCompare.j1 kj2 t673 t674 t679 bt682.2 false)) else (laws_FnOrdCompare.j1 kj2 t673 t674 t679 bt682.2 false))))) else (some false)) = some r := H
    have A8 := Aside0.mk A80
    clear A80
    by_cases c9 : t679 = t680
    ·rw [if_pos c9] at H
     have c9b0 : (t679 == t680) = true := beq_iff_eq.mpr c9
     have c9b1 : (t679 != t680) = false := bne_eq_false_iff_eq.mpr c9
     clear c9
     by_cases c10 : t679 = (-2)
     ·rw [if_pos c10] at H
      have c10b0 : (t679 == (-2)) = true := beq_iff_eq.mpr c10
      have c10b1 : (t679 != (-2)) = false := bne_eq_false_iff_eq.mpr c10
      clear c10
      replace H := Option.bind_eq_some_iff.mp H
      obtain ⟨t681,A110,H⟩ := H
      replace H : (some t681) = some r := H
      have A11 := Aside0.mk A110
      clear A110
      obtain rfl := Option.some.inj H
      go_wp2_with (first|((with_reducible refine gate_callee (f := 31) rfl ?_);refine goesL_ (some 20) rfl rfl Try.func31 (by kernel_rfl) rfl #[.slice A0 l0.length c0] rfl az ?_;(with_reducible refine (spec_DrawOrdCompare.calls kj2 _ _ l0 t673 t674 _ ?side1 ?side2 A6.out).mono ?_);(case side1 => exact Kd.Cz (Kd.C_below HR0.out HB.out));(case side2 => exact HC0.out);rintro e w12 ⟨v675,v677,rfl,ho0,ho1,hb⟩;refine ⟨_,rfl,?_⟩;have n0_ := Aside0.mk (Kd.R_lower ho0 (below_size bz));have n1_ := Aside0.mk (Kd.R_lower ho1 (below_size bz));have n2_ := Aside0.mk (below_step bz hb);clear HB;have HO676 := n0_;have HO678 := n1_;have HB := n2_;clear n0_ n1_ n2_;(try clear hb);(try clear hb2);(try clear hk);(try clear hi);(try clear ho0);(try clear ho1);obtain ⟨Ao13,co13,eo13⟩ := Kd.R_slice HO676.out;subst eo13;obtain ⟨Ao14,co14,eo14⟩ := Kd.R_slice HO678.out;subst eo14)|((with_reducible refine gate_callee (f := 28) rfl ?_);refine goesL_ (some 25) rfl rfl Try.func28 (by kernel_rfl) rfl #[.slice Ao13 t673.length co13,.slice Ao14 t674.length co14] rfl az ?_;(with_reducible refine (impl_OrdCompare.calls kj2 _ _ t673 _ _ t674 t679 _ ?side1 ?side2 ?side3 ?side4 A7.out).mono ?_);(case side1 => exact Kd.Cz (Kd.R_reads' HO676.out).2.2);(case side2 => exact (Kd.R_reads' HO676.out).2.1);(case side3 => exact Kd.Cz (Kd.R_reads' HO678.out).2.2);(case side4 => exact (Kd.R_reads' HO678.out).2.1);rintro e w15 ⟨rfl,hb⟩;refine ⟨_,rfl,?_⟩;have n0_ := Aside0.mk (Kd.R_below (Kd.Rz HO676.out) hb);have n1_ := Aside0.mk (Kd.R_below (Kd.Rz HO678.out) hb);have n2_ := Aside0.mk (below_step bz hb);clear HO676;clear HO678;clear HB;have HO676 := n0_;have HO678 := n1_;have HB := n2_;clear n0_ n1_ n2_;(try clear hb);(try clear hb2);(try clear hk);(try clear hi))|((with_reducible refine gate_callee (f := 32) rfl ?_);refine goesL_ (some 29) rfl rfl Try.func32 (by kernel_rfl) rfl #[.slice Ao13 t673.length co13,.slice Ao14 t674.length co14] rfl az ?_;(with_reducible refine (spec_OrdCompare.calls kj2 _ _ t673 _ _ t674 t680 _ ?side1 ?side2 ?side3 ?side4 A8.out).mono ?_);(case side1 => exact Kd.Cz (Kd.R_reads' HO676.out).2.2);(case side2 => exact (Kd.R_reads' HO676.out).2.1);(case side3 => exact Kd.Cz (Kd.R_reads' HO678.out).2.2);(case side4 => exact (Kd.R_reads' HO678.out).2.1);rintro e w16 ⟨rfl,hb⟩;refine ⟨_,rfl,?_⟩;have n0_ := Aside0.mk (Kd.R_below (Kd.Rz HO676.out) hb);have n1_ := Aside0.mk (Kd.R_below (Kd.Rz HO678.out) hb);have n2_ := Aside0.mk (below_step bz hb);clear HO676;clear HO678;clear HB;have HO676 := n0_;have HO678 := n1_;have HB := n2_;clear n0_ n1_ n2_;(try clear hb);(try clear hb2);(try clear hk);(try clear hi))|((with_reducible refine gate_callee (f := 19) rfl ?_);refine goesL_ (some 33) rfl rfl Try.func19 (by kernel_rfl) rfl #[] rfl az ?_;(with_reducible refine (laws_alive.calls kj2  t681 _ A11.out).mono ?_);rintro e w17 ⟨rfl,hb⟩;refine ⟨_,rfl,?_⟩;have n0_ := Aside0.mk (Kd.R_below (Kd.Rz HO676.out) hb);have n1_ := Aside0.mk (Kd.R_below (Kd.Rz HO678.out) hb);have n2_ := Aside0.mk (below_step bz hb);clear HO676;clear HO678;clear HB;have HO676 := n0_;have HO678 := n1_;have HB := n2_;clear n0_ n1_ n2_;(try clear hb);(try clear hb2);(try clear hk);(try clear hi)))
      go_ret
      exact ⟨by first|rfl|(simp [errW_none,errW_some] <;> rfl)|(simp [*,errW_none,errW_some] <;> rfl),bz⟩
     ·rw [if_neg c10] at H
      have c10b0 : (t679 == (-2)) = false := beq_eq_false_iff_ne.mpr c10
      have c10b1 : (t679 != (-2)) = true := bne_iff_ne.mpr c10
      replace H := Option.bind_eq_some_iff.mp H
      obtain ⟨⟨t682,t683⟩,A180,H⟩ := H
      replace H : ((spec_OrdValid.f kj2 t682).bind fun t688 => (if t688 = true then (if t679 = (-1) then ((impl_OrdCompare.f kj2 t674 t682).bind fun t689 => (if t689 = (-1) then ((impl_OrdCompare.f kj2 t673 t682).bind fun t690 => (laws_FnOrdCompare.j1 kj2 t673 t674 t679 t683 (t690 != (-1)))) else (laws_FnOrdCompare.j1 kj2 t673 t674 t679 t683 false))) else (laws_FnOrdCompare.j1 kj2 t673 t674 t679 t683 false)) else (laws_FnOrdCompare.j1 kj2 t673 t674 t679 t683 false))) = some r := H
      have A18 := Aside0.mk A180
      clear A180
      have HC19 := Aside0.mk H
      clear H
      go_upto_region 10 with (first|((with_reducible refine gate_callee (f := 31) rfl ?_);refine goesL_ (some 20) rfl rfl Try.func31 (by kernel_rfl) rfl #[.slice A0 l0.length c0] rfl az ?_;(with_reducible refine (spec_DrawOrdCompare.calls kj2 _ _ l0 t673 t674 _ ?side1 ?side2 A6.out).mono ?_);(case side1 => exact Kd.Cz (Kd.C_below HR0.out HB.out));(case side2 => exact HC0.out);rintro e w20 ⟨v675,v677,rfl,ho0,ho1,hb⟩;refine ⟨_,rfl,?_⟩;have n0_ := Aside0.mk (Kd.R_lower ho0 (below_size bz));have n1_ := Aside0.mk (Kd.R_lower ho1 (below_size bz));have n2_ := Aside0.mk (below_step bz hb);clear HB;have HO676 := n0_;have HO678 := n1_;have HB := n2_;clear n0_ n1_ n2_;(try clear hb);(try clear hb2);(try clear hk);(try clear hi);(try clear ho0);(try clear ho1);obtain ⟨Ao21,co21,eo21⟩ := Kd.R_slice HO676.out;subst eo21;obtain ⟨Ao22,co22,eo22⟩ := Kd.R_slice HO678.out;subst eo22)|((with_reducible refine gate_callee (f := 28) rfl ?_);refine goesL_ (some 25) rfl rfl Try.func28 (by kernel_rfl) rfl #[.slice Ao21 t673.length co21,.slice Ao22 t674.length co22] rfl az ?_;(with_reducible refine (impl_OrdCompare.calls kj2 _ _ t673 _ _ t674 t679 _ ?side1 ?side2 ?side3 ?side4 A7.out).mono ?_);(case side1 => exact Kd.Cz (Kd.R_reads' HO676.out).2.2);(case side2 => exact (Kd.R_reads' HO676.out).2.1);(case side3 => exact Kd.Cz (Kd.R_reads' HO678.out).2.2);(case side4 => exact (Kd.R_reads' HO678.out).2.1);rintro e w23 ⟨rfl,hb⟩;refine ⟨_,rfl,?_⟩;have n0_ := Aside0.mk (Kd.R_below (Kd.Rz HO676.out) hb);have n1_ := Aside0.mk (Kd.R_below (Kd.Rz HO678.out) hb);have n2_ := Aside0.mk (below_step bz hb);clear HO676;clear HO678;clear HB;have HO676 := n0_;have HO678 := n1_;have HB := n2_;clear n0_ n1_ n2_;(try clear hb);(try clear hb2);(try clear hk);(try clear hi))|((with_reducible refine gate_callee (f := 32) rfl ?_);refine goesL_ (some 29) rfl rfl Try.func32 (by kernel_rfl) rfl #[.slice Ao21 t673.length co21,.slice Ao22 t674.length co22] rfl az ?_;(with_reducible refine (spec_OrdCompare.calls kj2 _ _ t673 _ _ t674 t680 _ ?side1 ?side2 ?side3 ?side4 A8.out).mono ?_);(case side1 => exact Kd.Cz (Kd.R_reads' HO676.out).2.2);(case side2 => exact (Kd.R_reads' HO676.out).2.1);(case side3 => exact Kd.Cz (Kd.R_reads' HO678.out).2.2);(case side4 => exact (Kd.R_reads' HO678.out).2.1);rintro e w24 ⟨rfl,hb⟩;refine ⟨_,rfl,?_⟩;have n0_ := Aside0.mk (Kd.R_below (Kd.Rz HO676.out) hb);have n1_ := Aside0.mk (Kd.R_below (Kd.Rz HO678.out) hb);have n2_ := Aside0.mk (below_step bz hb);clear HO676;clear HO678;clear HB;have HO676 := n0_;have HO678 := n1_;have HB := n2_;clear n0_ n1_ n2_;(try clear hb);(try clear hb2);(try clear hk);(try clear hi))|((with_reducible refine gate_callee (f := 31) rfl ?_);refine goesL_ (some 36) rfl rfl Try.func31 (by kernel_rfl) rfl #[.slice A1 l1.length c1] rfl az ?_;(with_reducible refine (spec_DrawOrdCompare.calls kj2 _ _ l1 t682 t683 _ ?side1 ?side2 A18.out).mono ?_);(case side1 => exact Kd.Cz (Kd.C_below HR1.out HB.out));(case side2 => exact HC1.out);rintro e w25 ⟨v684,v686,rfl,ho0,ho1,hb⟩;refine ⟨_,rfl,?_⟩;have n0_ := Aside0.mk (Kd.R_mono (Kd.R_told (Kd.R_told (Kd.R_old (Kd.Rz HO676.out) hb) (Kd.R_base ho0)) (Kd.R_base ho1)) (fun _ h_ => h_.1));have n1_ := Aside0.mk (Kd.R_mono (Kd.R_told (Kd.R_told (Kd.R_old (Kd.Rz HO678.out) hb) (Kd.R_base ho0)) (Kd.R_base ho1)) (fun _ h_ => h_.1));have n2_ := Aside0.mk (Kd.R_lower (Kd.R_new' (Kd.R_new' ho0 (Kd.R_lt (Kd.Rz HO676.out))) (Kd.R_lt (Kd.Rz HO678.out))) (below_size bz));have n3_ := Aside0.mk (Kd.R_lower (Kd.R_new' (Kd.R_new' ho1 (Kd.R_lt (Kd.Rz HO676.out))) (Kd.R_lt (Kd.Rz HO678.out))) (below_size bz));have n4_ := Aside0.mk (below_step bz hb);clear HO676;clear HO678;clear HB;have HO676 := n0_;have HO678 := n1_;have HO685 := n2_;have HO687 := n3_;have HB := n4_;clear n0_ n1_ n2_ n3_ n4_;(try clear hb);(try clear hb2);(try clear hk);(try clear hi);(try clear ho0);(try clear ho1)))
      (try simp only [Act.put,List.setIfInBounds_toArray,List.set_cons_zero,List.set_cons_succ])
      go_cut [56] (fun v56 wc => ∃ (kq : Nat) (x56_18 : Bool),v56 = .bool x56_18 ∧ Aside0 (laws_FnOrdCompare.j1 kq t673 t674 t679 t683 x56_18 = some r) ∧ Aside0 (kq ≤ kj2) ∧ Aside0 (Kd.R (Kd.int .i64) 3 wc w.heap.size (fun k_ => some k_ ≠ ((.slice Ao22 t674.length co22) : Value).ownBlock ∧ some k_ ≠ (v686 : Value).ownBlock) (.slice Ao21 t673.length co21) t673) ∧ Aside0 (Kd.R (Kd.int .i64) 3 wc w.heap.size (fun k_ => some k_ ≠ ((.slice Ao21 t673.length co21) : Value).ownBlock ∧ some k_ ≠ (v686 : Value).ownBlock) (.slice Ao22 t674.length co22) t674) ∧ Aside0 (Kd.R (Kd.int .i64) 3 wc w.heap.size (fun k_ => some k_ ≠ ((.slice Ao21 t673.length co21) : Value).ownBlock ∧ some k_ ≠ ((.slice Ao22 t674.length co22) : Value).ownBlock) v686 t683) ∧ Aside0 (Below w.heap.size w wc))
      case first =>
       have H := HC19.out
       clear HC19
       replace H := Option.bind_eq_some_iff.mp H
       obtain ⟨t688,A260,H⟩ := H
       replace H : (if t688 = true then (if t679 = (-1) then ((impl_OrdCompare.f kj2 t674 t682).bind fun t689 => (if t689 = (-1) then ((impl_OrdCompare.f kj2 t673 t682).bind fun t690 => (laws_FnOrdCompare.j1 kj2 t673 t674 t679 t683 (t690 != (-1)))) else (laws_FnOrdCompare.j1 kj2 t673 t674 t679 t683 false))) else (laws_FnOrdCompare.j1 kj2 t673 t674 t679 t683 false)) else (laws_FnOrdCompare.j1 kj2 t673 t674 t679 t683 false)) = some r := H
       have A26 := Aside0.mk A260
       clear A260
       by_cases c27 : t688 = true
       ·subst c27
        have H1 : (if t679 = (-1) then ((impl_OrdCompare.f kj2 t674 t682).bind fun t689 => (if t689 = (-1) then ((impl_OrdCompare.f kj2 t673 t682).bind fun t690 => (laws_FnOrdCompare.j1 kj2 t673 t674 t679 t683 (t690 != (-1)))) else (laws_FnOrdCompare.j1 kj2 t673 t674 t679 t683 false))) else (laws_FnOrdCompare.j1 kj2 t673 t674 t679 t683 false)) = some r := by rw [if_pos rfl] at H;exact H
        clear H
        have H := H1
        clear H1
        by_cases c28 : t679 = (-1)
        ·rw [if_pos c28] at H
         have c28b0 : (t679 == (-1)) = true := beq_iff_eq.mpr c28
         have c28b1 : (t679 != (-1)) = false := bne_eq_false_iff_eq.mpr c28
         clear c28
         (first|rw [c28b0]|(simp only [i64_w,i32_w];rw [c28b0])|skip)
         replace H := Option.bind_eq_some_iff.mp H
         obtain ⟨t689,A290,H⟩ := H
         replace H : (if t689 = (-1) then ((impl_OrdCompare.f kj2 t673 t682).bind fun t690 => (laws_FnOrdCompare.j1 kj2 t673 t674 t679 t683 (t690 != (-1)))) else (laws_FnOrdCompare.j1 kj2 t673 t674 t679 t683 false)) = some r := H
         have A29 := Aside0.mk A290
         clear A290
         by_cases c30 : t689 = (-1)
         ·rw [if_pos c30] at H
          have c30b0 : (t689 == (-1)) = true := beq_iff_eq.mpr c30
          have c30b1 : (t689 != (-1)) = false := bne_eq_false_iff_eq.mpr c30
          clear c30
          replace H := Option.bind_eq_some_iff.mp H
          obtain ⟨t690,A310,H⟩ := H
          replace H : (laws_FnOrdCompare.j1 kj2 t673 t674 t679 t683 (t690 != (-1))) = some r := H
          have A31 := Aside0.mk A310
          clear A310
          have H' := Aside0.mk H
          clear H
          obtain ⟨Ao32,co32,eo32⟩ := Kd.R_slice HO685.out
          subst eo32
          go_wp2_with (first|((with_reducible refine gate_callee (f := 24) rfl ?_);refine goesL_ (some 40) rfl rfl Try.func24 (by kernel_rfl) rfl #[.slice Ao32 t682.length co32] rfl az ?_;(with_reducible refine (spec_OrdValid.calls kj2 _ _ t682 true _ ?side1 ?side2 A26.out).mono ?_);(case side1 => exact Kd.Cz (Kd.R_reads' HO685.out).2.2);(case side2 => exact (Kd.R_reads' HO685.out).2.1);rintro e w33 ⟨rfl,hb⟩;refine ⟨_,rfl,?_⟩;have n0_ := Aside0.mk (Kd.R_below (Kd.Rz HO676.out) hb);have n1_ := Aside0.mk (Kd.R_below (Kd.Rz HO678.out) hb);have n2_ := Aside0.mk (Kd.R_below (Kd.Rz HO685.out) hb);have n3_ := Aside0.mk (Kd.R_below (Kd.Rz HO687.out) hb);have n4_ := Aside0.mk (below_step bz hb);clear HO676;clear HO678;clear HO685;clear HO687;clear HB;have HO676 := n0_;have HO678 := n1_;have HO685 := n2_;have HO687 := n3_;have HB := n4_;clear n0_ n1_ n2_ n3_ n4_;(try clear hb);(try clear hb2);(try clear hk);(try clear hi))|(go_at_call 28;(with_reducible refine (impl_OrdCompare.calls kj2 _ _ t674 _ _ t682 t689 _ ?side1 ?side2 ?side3 ?side4 A29.out).mono ?_);(case side1 => exact Kd.Cz (Kd.R_reads' HO678.out).2.2);(case side2 => exact (Kd.R_reads' HO678.out).2.1);(case side3 => exact Kd.Cz (Kd.R_reads' HO685.out).2.2);(case side4 => exact (Kd.R_reads' HO685.out).2.1);rintro e w34 ⟨rfl,hb⟩;have n0_ := Aside0.mk (Kd.R_below (Kd.Rz HO676.out) hb);have n1_ := Aside0.mk (Kd.R_below (Kd.Rz HO678.out) hb);have n2_ := Aside0.mk (Kd.R_below (Kd.Rz HO685.out) hb);have n3_ := Aside0.mk (Kd.R_below (Kd.Rz HO687.out) hb);have n4_ := Aside0.mk (below_step bz hb);clear HO676;clear HO678;clear HO685;clear HO687;clear HB;have HO676 := n0_;have HO678 := n1_;have HO685 := n2_;have HO687 := n3_;have HB := n4_;clear n0_ n1_ n2_ n3_ n4_;(try clear hb);(try clear hb2);(try clear hk);(try clear hi))|(go_at_call 28;(with_reducible refine (impl_OrdCompare.calls kj2 _ _ t673 _ _ t682 t690 _ ?side1 ?side2 ?side3 ?side4 A31.out).mono ?_);(case side1 => exact Kd.Cz (Kd.R_reads' HO676.out).2.2);(case side2 => exact (Kd.R_reads' HO676.out).2.1);(case side3 => exact Kd.Cz (Kd.R_reads' HO685.out).2.2);(case side4 => exact (Kd.R_reads' HO685.out).2.1);rintro e w35 ⟨rfl,hb⟩;have n0_ := Aside0.mk (Kd.R_below (Kd.Rz HO676.out) hb);have n1_ := Aside0.mk (Kd.R_below (Kd.Rz HO678.out) hb);have n2_ := Aside0.mk (Kd.R_below (Kd.Rz HO685.out) hb);have n3_ := Aside0.mk (Kd.R_below (Kd.Rz HO687.out) hb);have n4_ := Aside0.mk (below_step bz hb);clear HO676;clear HO678;clear HO685;clear HO687;clear HB;have HO676 := n0_;have HO678 := n1_;have HO685 := n2_;have HO687 := n3_;have HB := n4_;clear n0_ n1_ n2_ n3_ n4_;(try clear hb);(try clear hb2);(try clear hk);(try clear hi)))
          go_meet
          case rel => exact ⟨_,((t690 != (-1))),(by first|rfl|(simp;done)|(simp [*];done)),H',⟨by have := HJ2.out;first|omega|exact Nat.le_refl _⟩,⟨by (with_reducible repeat (first|apply Kd.R_alloc|apply Kd.R_drewN|apply Kd.R_drew));exact Kd.R_mono HO676.out (fun _ hk => ⟨hk.1.1,hk.2⟩)⟩,⟨by (with_reducible repeat (first|apply Kd.R_alloc|apply Kd.R_drewN|apply Kd.R_drew));exact Kd.R_mono HO678.out (fun _ hk => ⟨hk.1.1,hk.2⟩)⟩,⟨by (with_reducible repeat (first|apply Kd.R_alloc|apply Kd.R_drewN|apply Kd.R_drew));exact Kd.R_mono HO687.out (fun _ hk => ⟨hk.1.2,hk.2⟩)⟩,⟨bz⟩⟩
         ·rw [if_neg c30] at H
          have c30b0 : (t689 == (-1)) = false := beq_eq_false_iff_ne.mpr c30
          have c30b1 : (t689 != (-1)) = true := bne_iff_ne.mpr c30
          have H' := Aside0.mk H
          clear H
          obtain ⟨Ao36,co36,eo36⟩ := Kd.R_slice HO685.out
          subst eo36
          go_wp2_with (first|((with_reducible refine gate_callee (f := 24) rfl ?_);refine goesL_ (some 40) rfl rfl Try.func24 (by kernel_rfl) rfl #[.slice Ao36 t682.length co36] rfl az ?_;(with_reducible refine (spec_OrdValid.calls kj2 _ _ t682 true _ ?side1 ?side2 A26.out).mono ?_);(case side1 => exact Kd.Cz (Kd.R_reads' HO685.out).2.2);(case side2 => exact (Kd.R_reads' HO685.out).2.1);rintro e w37 ⟨rfl,hb⟩;refine ⟨_,rfl,?_⟩;have n0_ := Aside0.mk (Kd.R_below (Kd.Rz HO676.out) hb);have n1_ := Aside0.mk (Kd.R_below (Kd.Rz HO678.out) hb);have n2_ := Aside0.mk (Kd.R_below (Kd.Rz HO685.out) hb);have n3_ := Aside0.mk (Kd.R_below (Kd.Rz HO687.out) hb);have n4_ := Aside0.mk (below_step bz hb);clear HO676;clear HO678;clear HO685;clear HO687;clear HB;have HO676 := n0_;have HO678 := n1_;have HO685 := n2_;have HO687 := n3_;have HB := n4_;clear n0_ n1_ n2_ n3_ n4_;(try clear hb);(try clear hb2);(try clear hk);(try clear hi))|(go_at_call 28;(with_reducible refine (impl_OrdCompare.calls kj2 _ _ t674 _ _ t682 t689 _ ?side1 ?side2 ?side3 ?side4 A29.out).mono ?_);(case side1 => exact Kd.Cz (Kd.R_reads' HO678.out).2.2);(case side2 => exact (Kd.R_reads' HO678.out).2.1);(case side3 => exact Kd.Cz (Kd.R_reads' HO685.out).2.2);(case side4 => exact (Kd.R_reads' HO685.out).2.1);rintro e w38 ⟨rfl,hb⟩;have n0_ := Aside0.mk (Kd.R_below (Kd.Rz HO676.out) hb);have n1_ := Aside0.mk (Kd.R_below (Kd.Rz HO678.out) hb);have n2_ := Aside0.mk (Kd.R_below (Kd.Rz HO685.out) hb);have n3_ := Aside0.mk (Kd.R_below (Kd.Rz HO687.out) hb);have n4_ := Aside0.mk (below_step bz hb);clear HO676;clear HO678;clear HO685;clear HO687;clear HB;have HO676 := n0_;have HO678 := n1_;have HO685 := n2_;have HO687 := n3_;have HB := n4_;clear n0_ n1_ n2_ n3_ n4_;(try clear hb);(try clear hb2);(try clear hk);(try clear hi)))
          go_meet
          case rel => exact ⟨_,(false),(by first|rfl|(simp;done)|(simp [*];done)),H',⟨by have := HJ2.out;first|omega|exact Nat.le_refl _⟩,⟨by (with_reducible repeat (first|apply Kd.R_alloc|apply Kd.R_drewN|apply Kd.R_drew));exact Kd.R_mono HO676.out (fun _ hk => ⟨hk.1.1,hk.2⟩)⟩,⟨by (with_reducible repeat (first|apply Kd.R_alloc|apply Kd.R_drewN|apply Kd.R_drew));exact Kd.R_mono HO678.out (fun _ hk => ⟨hk.1.1,hk.2⟩)⟩,⟨by (with_reducible repeat (first|apply Kd.R_alloc|apply Kd.R_drewN|apply Kd.R_drew));exact Kd.R_mono HO687.out (fun _ hk => ⟨hk.1.2,hk.2⟩)⟩,⟨bz⟩⟩
        ·rw [if_neg c28] at H
         have c28b0 : (t679 == (-1)) = false := beq_eq_false_iff_ne.mpr c28
         have c28b1 : (t679 != (-1)) = true := bne_iff_ne.mpr c28
         (first|rw [c28b0]|(simp only [i64_w,i32_w];rw [c28b0])|skip)
         have H' := Aside0.mk H
         clear H
         obtain ⟨Ao39,co39,eo39⟩ := Kd.R_slice HO685.out
         subst eo39
         go_wp2_with (first|((with_reducible refine gate_callee (f := 24) rfl ?_);refine goesL_ (some 40) rfl rfl Try.func24 (by kernel_rfl) rfl #[.slice Ao39 t682.length co39] rfl az ?_;(with_reducible refine (spec_OrdValid.calls kj2 _ _ t682 true _ ?side1 ?side2 A26.out).mono ?_);(case side1 => exact Kd.Cz (Kd.R_reads' HO685.out).2.2);(case side2 => exact (Kd.R_reads' HO685.out).2.1);rintro e w40 ⟨rfl,hb⟩;refine ⟨_,rfl,?_⟩;have n0_ := Aside0.mk (Kd.R_below (Kd.Rz HO676.out) hb);have n1_ := Aside0.mk (Kd.R_below (Kd.Rz HO678.out) hb);have n2_ := Aside0.mk (Kd.R_below (Kd.Rz HO685.out) hb);have n3_ := Aside0.mk (Kd.R_below (Kd.Rz HO687.out) hb);have n4_ := Aside0.mk (below_step bz hb);clear HO676;clear HO678;clear HO685;clear HO687;clear HB;have HO676 := n0_;have HO678 := n1_;have HO685 := n2_;have HO687 := n3_;have HB := n4_;clear n0_ n1_ n2_ n3_ n4_;(try clear hb);(try clear hb2);(try clear hk);(try clear hi)))
         go_meet
         case rel => exact ⟨_,(false),(by first|rfl|(simp;done)|(simp [*];done)),H',⟨by have := HJ2.out;first|omega|exact Nat.le_refl _⟩,⟨by (with_reducible repeat (first|apply Kd.R_alloc|apply Kd.R_drewN|apply Kd.R_drew));exact Kd.R_mono HO676.out (fun _ hk => ⟨hk.1.1,hk.2⟩)⟩,⟨by (with_reducible repeat (first|apply Kd.R_alloc|apply Kd.R_drewN|apply Kd.R_drew));exact Kd.R_mono HO678.out (fun _ hk => ⟨hk.1.1,hk.2⟩)⟩,⟨by (with_reducible repeat (first|apply Kd.R_alloc|apply Kd.R_drewN|apply Kd.R_drew));exact Kd.R_mono HO687.out (fun _ hk => ⟨hk.1.2,hk.2⟩)⟩,⟨bz⟩⟩
       ·replace c27 := Bool.eq_false_iff.mpr c27
        subst c27
        have H1 : (laws_FnOrdCompare.j1 kj2 t673 t674 t679 t683 false) = some r := by rw [if_neg (show ¬ (false = true) by decide)] at H;exact H
        clear H
        have H := H1
        clear H1
        have H' := Aside0.mk H
        clear H
        obtain ⟨Ao41,co41,eo41⟩ := Kd.R_slice HO685.out
        subst eo41
        go_wp2_with (first|((with_reducible refine gate_callee (f := 24) rfl ?_);refine goesL_ (some 40) rfl rfl Try.func24 (by kernel_rfl) rfl #[.slice Ao41 t682.length co41] rfl az ?_;(with_reducible refine (spec_OrdValid.calls kj2 _ _ t682 false _ ?side1 ?side2 A26.out).mono ?_);(case side1 => exact Kd.Cz (Kd.R_reads' HO685.out).2.2);(case side2 => exact (Kd.R_reads' HO685.out).2.1);rintro e w42 ⟨rfl,hb⟩;refine ⟨_,rfl,?_⟩;have n0_ := Aside0.mk (Kd.R_below (Kd.Rz HO676.out) hb);have n1_ := Aside0.mk (Kd.R_below (Kd.Rz HO678.out) hb);have n2_ := Aside0.mk (Kd.R_below (Kd.Rz HO685.out) hb);have n3_ := Aside0.mk (Kd.R_below (Kd.Rz HO687.out) hb);have n4_ := Aside0.mk (below_step bz hb);clear HO676;clear HO678;clear HO685;clear HO687;clear HB;have HO676 := n0_;have HO678 := n1_;have HO685 := n2_;have HO687 := n3_;have HB := n4_;clear n0_ n1_ n2_ n3_ n4_;(try clear hb);(try clear hb2);(try clear hk);(try clear hi)))
        go_meet
        case rel => exact ⟨_,(false),(by first|rfl|(simp;done)|(simp [*];done)),H',⟨by have := HJ2.out;first|omega|exact Nat.le_refl _⟩,⟨by (with_reducible repeat (first|apply Kd.R_alloc|apply Kd.R_drewN|apply Kd.R_drew));exact Kd.R_mono HO676.out (fun _ hk => ⟨hk.1.1,hk.2⟩)⟩,⟨by (with_reducible repeat (first|apply Kd.R_alloc|apply Kd.R_drewN|apply Kd.R_drew));exact Kd.R_mono HO678.out (fun _ hk => ⟨hk.1.1,hk.2⟩)⟩,⟨by (with_reducible repeat (first|apply Kd.R_alloc|apply Kd.R_drewN|apply Kd.R_drew));exact Kd.R_mono HO687.out (fun _ hk => ⟨hk.1.2,hk.2⟩)⟩,⟨bz⟩⟩
      case rest =>
       clear HC19
       try clear c1
       try clear c2
       try clear p2
       try clear c3
       try clear c4
       try clear c4b0
       try clear c4b1
       try clear c5
       try clear c7
       try clear c9
       try clear c9b0
       try clear c9b1
       try clear c10
       try clear c10b0
       try clear c10b1
       try clear c19
       try clear c24
       try clear c27
       try clear c28
       try clear c28b0
       try clear c28b1
       try clear c30
       try clear c30b0
       try clear c30b1
       try clear c31
       try clear c32
       try clear p2
       obtain ⟨kq,x56_18,rfl,HA,HJ18,HO_5,HO_6,HO_9,HB⟩ := hcut
       cases kq with
       | zero => exact absurd HA.out (by simp [laws_FnOrdCompare.j1])
       | succ kj18 =>
        have H := HA.out
        clear HA
        simp only [laws_FnOrdCompare.j1] at H
        by_cases c43 : x56_18 = true
        ·subst c43
         have H1 : (some false) = some r := by rw [if_pos rfl] at H;exact H
         clear H
         have H := H1
         clear H1
         obtain rfl := Option.some.inj H
         go_wp2
         go_ret
         exact ⟨by first|rfl|(simp [errW_none,errW_some] <;> rfl)|(simp [*,errW_none,errW_some] <;> rfl),bz⟩
        ·replace c43 := Bool.eq_false_iff.mpr c43
         subst c43
         have H1 : ((spec_OrdValid.f kj18 t683).bind fun t691 => (if t691 = true then (if t679 = 1 then ((impl_OrdCompare.f kj18 t674 t683).bind fun t692 => (if t692 = 1 then ((impl_OrdCompare.f kj18 t673 t683).bind fun t693 => (laws_FnOrdCompare.j2 kj18 t673 t674 t679 (t693 != 1))) else (laws_FnOrdCompare.j2 kj18 t673 t674 t679 false))) else (laws_FnOrdCompare.j2 kj18 t673 t674 t679 false)) else (laws_FnOrdCompare.j2 kj18 t673 t674 t679 false))) = some r := by rw [if_neg (show ¬ (false = true) by decide)] at H;exact H
         clear H
         have H := H1
         clear H1
         have HC44 := Aside0.mk H
         clear H
         go_upto_region 12 with (fail)
         go_cut [74] (fun v74 wc => ∃ (kq : Nat) (x74_43 : Bool),v74 = .bool x74_43 ∧ Aside0 (laws_FnOrdCompare.j2 kq t673 t674 t679 x74_43 = some r) ∧ Aside0 (kq ≤ kj18) ∧ Aside0 (Kd.R (Kd.int .i64) 3 wc w.heap.size (fun k_ => some k_ ≠ ((.slice Ao22 t674.length co22) : Value).ownBlock) (.slice Ao21 t673.length co21) t673) ∧ Aside0 (Kd.R (Kd.int .i64) 3 wc w.heap.size (fun k_ => some k_ ≠ ((.slice Ao21 t673.length co21) : Value).ownBlock) (.slice Ao22 t674.length co22) t674) ∧ Aside0 (Below w.heap.size w wc))
         case first =>
          have H := HC44.out
          clear HC44
          replace H := Option.bind_eq_some_iff.mp H
          obtain ⟨t691,A450,H⟩ := H
          replace H : (if t691 = true then (if t679 = 1 then ((impl_OrdCompare.f kj18 t674 t683).bind fun t692 => (if t692 = 1 then ((impl_OrdCompare.f kj18 t673 t683).bind fun t693 => (laws_FnOrdCompare.j2 kj18 t673 t674 t679 (t693 != 1))) else (laws_FnOrdCompare.j2 kj18 t673 t674 t679 false))) else (laws_FnOrdCompare.j2 kj18 t673 t674 t679 false)) else (laws_FnOrdCompare.j2 kj18 t673 t674 t679 false)) = some r := H
          have A45 := Aside0.mk A450
          clear A450
          by_cases c46 : t691 = true
          ·subst c46
           have H1 : (if t679 = 1 then ((impl_OrdCompare.f kj18 t674 t683).bind fun t692 => (if t692 = 1 then ((impl_OrdCompare.f kj18 t673 t683).bind fun t693 => (laws_FnOrdCompare.j2 kj18 t673 t674 t679 (t693 != 1))) else (laws_FnOrdCompare.j2 kj18 t673 t674 t679 false))) else (laws_FnOrdCompare.j2 kj18 t673 t674 t679 false)) = some r := by rw [if_pos rfl] at H;exact H
           clear H
           have H := H1
           clear H1
           by_cases c47 : t679 = 1
           ·rw [if_pos c47] at H
            have c47b0 : (t679 == 1) = true := beq_iff_eq.mpr c47
            have c47b1 : (t679 != 1) = false := bne_eq_false_iff_eq.mpr c47
            clear c47
            (first|rw [c47b0]|(simp only [i64_w,i32_w];rw [c47b0])|skip)
            replace H := Option.bind_eq_some_iff.mp H
            obtain ⟨t692,A480,H⟩ := H
            replace H : (if t692 = 1 then ((impl_OrdCompare.f kj18 t673 t683).bind fun t693 => (laws_FnOrdCompare.j2 kj18 t673 t674 t679 (t693 != 1))) else (laws_FnOrdCompare.j2 kj18 t673 t674 t679 false)) = some r := H
            have A48 := Aside0.mk A480
            clear A480
            by_cases c49 : t692 = 1
            ·rw [if_pos c49] at H
             have c49b0 : (t692 == 1) = true := beq_iff_eq.mpr c49
             have c49b1 : (t692 != 1) = false := bne_eq_false_iff_eq.mpr c49
             clear c49
             replace H := Option.bind_eq_some_iff.mp H
             obtain ⟨t693,A500,H⟩ := H
             replace H : (laws_FnOrdCompare.j2 kj18 t673 t674 t679 (t693 != 1)) = some r := H
             have A50 := Aside0.mk A500
             clear A500
             have H' := Aside0.mk H
             clear H
             obtain ⟨Ao51,co51,eo51⟩ := Kd.R_slice HO_9.out
             subst eo51
             go_wp2_with (first|((with_reducible refine gate_callee (f := 24) rfl ?_);refine goesL_ (some 58) rfl rfl Try.func24 (by kernel_rfl) rfl #[.slice Ao51 t683.length co51] rfl az ?_;(with_reducible refine (spec_OrdValid.calls kj18 _ _ t683 true _ ?side1 ?side2 A45.out).mono ?_);(case side1 => exact Kd.Cz (Kd.R_reads' HO_9.out).2.2);(case side2 => exact (Kd.R_reads' HO_9.out).2.1);rintro e w52 ⟨rfl,hb⟩;refine ⟨_,rfl,?_⟩;have n0_ := Aside0.mk (Kd.R_below (Kd.Rz HO_5.out) hb);have n1_ := Aside0.mk (Kd.R_below (Kd.Rz HO_6.out) hb);have n2_ := Aside0.mk (Kd.R_below (Kd.Rz HO_9.out) hb);have n3_ := Aside0.mk (below_step bz hb);clear HO_5;clear HO_6;clear HO_9;clear HB;have HO_5 := n0_;have HO_6 := n1_;have HO_9 := n2_;have HB := n3_;clear n0_ n1_ n2_ n3_;(try clear hb);(try clear hb2);(try clear hk);(try clear hi))|(go_at_call 28;(with_reducible refine (impl_OrdCompare.calls kj18 _ _ t674 _ _ t683 t692 _ ?side1 ?side2 ?side3 ?side4 A48.out).mono ?_);(case side1 => exact Kd.Cz (Kd.R_reads' HO_6.out).2.2);(case side2 => exact (Kd.R_reads' HO_6.out).2.1);(case side3 => exact Kd.Cz (Kd.R_reads' HO_9.out).2.2);(case side4 => exact (Kd.R_reads' HO_9.out).2.1);rintro e w53 ⟨rfl,hb⟩;have n0_ := Aside0.mk (Kd.R_below (Kd.Rz HO_5.out) hb);have n1_ := Aside0.mk (Kd.R_below (Kd.Rz HO_6.out) hb);have n2_ := Aside0.mk (Kd.R_below (Kd.Rz HO_9.out) hb);have n3_ := Aside0.mk (below_step bz hb);clear HO_5;clear HO_6;clear HO_9;clear HB;have HO_5 := n0_;have HO_6 := n1_;have HO_9 := n2_;have HB := n3_;clear n0_ n1_ n2_ n3_;(try clear hb);(try clear hb2);(try clear hk);(try clear hi))|(go_at_call 28;(with_reducible refine (impl_OrdCompare.calls kj18 _ _ t673 _ _ t683 t693 _ ?side1 ?side2 ?side3 ?side4 A50.out).mono ?_);(case side1 => exact Kd.Cz (Kd.R_reads' HO_5.out).2.2);(case side2 => exact (Kd.R_reads' HO_5.out).2.1);(case side3 => exact Kd.Cz (Kd.R_reads' HO_9.out).2.2);(case side4 => exact (Kd.R_reads' HO_9.out).2.1);rintro e w54 ⟨rfl,hb⟩;have n0_ := Aside0.mk (Kd.R_below (Kd.Rz HO_5.out) hb);have n1_ := Aside0.mk (Kd.R_below (Kd.Rz HO_6.out) hb);have n2_ := Aside0.mk (Kd.R_below (Kd.Rz HO_9.out) hb);have n3_ := Aside0.mk (below_step bz hb);clear HO_5;clear HO_6;clear HO_9;clear HB;have HO_5 := n0_;have HO_6 := n1_;have HO_9 := n2_;have HB := n3_;clear n0_ n1_ n2_ n3_;(try clear hb);(try clear hb2);(try clear hk);(try clear hi)))
             go_meet
             case rel => exact ⟨_,((t693 != 1)),(by first|rfl|(simp;done)|(simp [*];done)),H',⟨by have := HJ2.out;have := HJ18.out;first|omega|exact Nat.le_refl _⟩,⟨by (with_reducible repeat (first|apply Kd.R_alloc|apply Kd.R_drewN|apply Kd.R_drew));exact Kd.R_mono HO_5.out (fun _ hk => hk.1)⟩,⟨by (with_reducible repeat (first|apply Kd.R_alloc|apply Kd.R_drewN|apply Kd.R_drew));exact Kd.R_mono HO_6.out (fun _ hk => hk.1)⟩,⟨bz⟩⟩
            ·rw [if_neg c49] at H
             have c49b0 : (t692 == 1) = false := beq_eq_false_iff_ne.mpr c49
             have c49b1 : (t692 != 1) = true := bne_iff_ne.mpr c49
             have H' := Aside0.mk H
             clear H
             obtain ⟨Ao55,co55,eo55⟩ := Kd.R_slice HO_9.out
             subst eo55
             go_wp2_with (first|((with_reducible refine gate_callee (f := 24) rfl ?_);refine goesL_ (some 58) rfl rfl Try.func24 (by kernel_rfl) rfl #[.slice Ao55 t683.length co55] rfl az ?_;(with_reducible refine (spec_OrdValid.calls kj18 _ _ t683 true _ ?side1 ?side2 A45.out).mono ?_);(case side1 => exact Kd.Cz (Kd.R_reads' HO_9.out).2.2);(case side2 => exact (Kd.R_reads' HO_9.out).2.1);rintro e w56 ⟨rfl,hb⟩;refine ⟨_,rfl,?_⟩;have n0_ := Aside0.mk (Kd.R_below (Kd.Rz HO_5.out) hb);have n1_ := Aside0.mk (Kd.R_below (Kd.Rz HO_6.out) hb);have n2_ := Aside0.mk (Kd.R_below (Kd.Rz HO_9.out) hb);have n3_ := Aside0.mk (below_step bz hb);clear HO_5;clear HO_6;clear HO_9;clear HB;have HO_5 := n0_;have HO_6 := n1_;have HO_9 := n2_;have HB := n3_;clear n0_ n1_ n2_ n3_;(try clear hb);(try clear hb2);(try clear hk);(try clear hi))|(go_at_call 28;(with_reducible refine (impl_OrdCompare.calls kj18 _ _ t674 _ _ t683 t692 _ ?side1 ?side2 ?side3 ?side4 A48.out).mono ?_);(case side1 => exact Kd.Cz (Kd.R_reads' HO_6.out).2.2);(case side2 => exact (Kd.R_reads' HO_6.out).2.1);(case side3 => exact Kd.Cz (Kd.R_reads' HO_9.out).2.2);(case side4 => exact (Kd.R_reads' HO_9.out).2.1);rintro e w57 ⟨rfl,hb⟩;have n0_ := Aside0.mk (Kd.R_below (Kd.Rz HO_5.out) hb);have n1_ := Aside0.mk (Kd.R_below (Kd.Rz HO_6.out) hb);have n2_ := Aside0.mk (Kd.R_below (Kd.Rz HO_9.out) hb);have n3_ := Aside0.mk (below_step bz hb);clear HO_5;clear HO_6;clear HO_9;clear HB;have HO_5 := n0_;have HO_6 := n1_;have HO_9 := n2_;have HB := n3_;clear n0_ n1_ n2_ n3_;(try clear hb);(try clear hb2);(try clear hk);(try clear hi)))
             go_meet
             case rel => exact ⟨_,(false),(by first|rfl|(simp;done)|(simp [*];done)),H',⟨by have := HJ2.out;have := HJ18.out;first|omega|exact Nat.le_refl _⟩,⟨by (with_reducible repeat (first|apply Kd.R_alloc|apply Kd.R_drewN|apply Kd.R_drew));exact Kd.R_mono HO_5.out (fun _ hk => hk.1)⟩,⟨by (with_reducible repeat (first|apply Kd.R_alloc|apply Kd.R_drewN|apply Kd.R_drew));exact Kd.R_mono HO_6.out (fun _ hk => hk.1)⟩,⟨bz⟩⟩
           ·rw [if_neg c47] at H
            have c47b0 : (t679 == 1) = false := beq_eq_false_iff_ne.mpr c47
            have c47b1 : (t679 != 1) = true := bne_iff_ne.mpr c47
            (first|rw [c47b0]|(simp only [i64_w,i32_w];rw [c47b0])|skip)
            have H' := Aside0.mk H
            clear H
            obtain ⟨Ao58,co58,eo58⟩ := Kd.R_slice HO_9.out
            subst eo58
            go_wp2_with (first|((with_reducible refine gate_callee (f := 24) rfl ?_);refine goesL_ (some 58) rfl rfl Try.func24 (by kernel_rfl) rfl #[.slice Ao58 t683.length co58] rfl az ?_;(with_reducible refine (spec_OrdValid.calls kj18 _ _ t683 true _ ?side1 ?side2 A45.out).mono ?_);(case side1 => exact Kd.Cz (Kd.R_reads' HO_9.out).2.2);(case side2 => exact (Kd.R_reads' HO_9.out).2.1);rintro e w59 ⟨rfl,hb⟩;refine ⟨_,rfl,?_⟩;have n0_ := Aside0.mk (Kd.R_below (Kd.Rz HO_5.out) hb);have n1_ := Aside0.mk (Kd.R_below (Kd.Rz HO_6.out) hb);have n2_ := Aside0.mk (Kd.R_below (Kd.Rz HO_9.out) hb);have n3_ := Aside0.mk (below_step bz hb);clear HO_5;clear HO_6;clear HO_9;clear HB;have HO_5 := n0_;have HO_6 := n1_;have HO_9 := n2_;have HB := n3_;clear n0_ n1_ n2_ n3_;(try clear hb);(try clear hb2);(try clear hk);(try clear hi)))
            go_meet
            case rel => exact ⟨_,(false),(by first|rfl|(simp;done)|(simp [*];done)),H',⟨by have := HJ2.out;have := HJ18.out;first|omega|exact Nat.le_refl _⟩,⟨by (with_reducible repeat (first|apply Kd.R_alloc|apply Kd.R_drewN|apply Kd.R_drew));exact Kd.R_mono HO_5.out (fun _ hk => hk.1)⟩,⟨by (with_reducible repeat (first|apply Kd.R_alloc|apply Kd.R_drewN|apply Kd.R_drew));exact Kd.R_mono HO_6.out (fun _ hk => hk.1)⟩,⟨bz⟩⟩
          ·replace c46 := Bool.eq_false_iff.mpr c46
           subst c46
           have H1 : (laws_FnOrdCompare.j2 kj18 t673 t674 t679 false) = some r := by rw [if_neg (show ¬ (false = true) by decide)] at H;exact H
           clear H
           have H := H1
           clear H1
           have H' := Aside0.mk H
           clear H
           obtain ⟨Ao60,co60,eo60⟩ := Kd.R_slice HO_9.out
           subst eo60
           go_wp2_with (first|((with_reducible refine gate_callee (f := 24) rfl ?_);refine goesL_ (some 58) rfl rfl Try.func24 (by kernel_rfl) rfl #[.slice Ao60 t683.length co60] rfl az ?_;(with_reducible refine (spec_OrdValid.calls kj18 _ _ t683 false _ ?side1 ?side2 A45.out).mono ?_);(case side1 => exact Kd.Cz (Kd.R_reads' HO_9.out).2.2);(case side2 => exact (Kd.R_reads' HO_9.out).2.1);rintro e w61 ⟨rfl,hb⟩;refine ⟨_,rfl,?_⟩;have n0_ := Aside0.mk (Kd.R_below (Kd.Rz HO_5.out) hb);have n1_ := Aside0.mk (Kd.R_below (Kd.Rz HO_6.out) hb);have n2_ := Aside0.mk (Kd.R_below (Kd.Rz HO_9.out) hb);have n3_ := Aside0.mk (below_step bz hb);clear HO_5;clear HO_6;clear HO_9;clear HB;have HO_5 := n0_;have HO_6 := n1_;have HO_9 := n2_;have HB := n3_;clear n0_ n1_ n2_ n3_;(try clear hb);(try clear hb2);(try clear hk);(try clear hi)))
           go_meet
           case rel => exact ⟨_,(false),(by first|rfl|(simp;done)|(simp [*];done)),H',⟨by have := HJ2.out;have := HJ18.out;first|omega|exact Nat.le_refl _⟩,⟨by (with_reducible repeat (first|apply Kd.R_alloc|apply Kd.R_drewN|apply Kd.R_drew));exact Kd.R_mono HO_5.out (fun _ hk => hk.1)⟩,⟨by (with_reducible repeat (first|apply Kd.R_alloc|apply Kd.R_drewN|apply Kd.R_drew));exact Kd.R_mono HO_6.out (fun _ hk => hk.1)⟩,⟨bz⟩⟩
         case rest =>
          clear HC44
          try clear c1
          try clear c2
          try clear p2
          try clear c3
          try clear c4
          try clear c4b0
          try clear c4b1
          try clear c5
          try clear c7
          try clear c9
          try clear c9b0
          try clear c9b1
          try clear c10
          try clear c10b0
          try clear c10b1
          try clear c19
          try clear c24
          try clear c27
          try clear c28
          try clear c28b0
          try clear c28b1
          try clear c30
          try clear c30b0
          try clear c30b1
          try clear c31
          try clear c32
          try clear c43
          try clear c46
          try clear c47
          try clear c47b0
          try clear c47b1
          try clear c49
          try clear c49b0
          try clear c49b1
          try clear p2
          obtain ⟨kq,x74_43,rfl,HA,HJ43,HO_5,HO_6,HB⟩ := hcut
          cases kq with
          | zero => exact absurd HA.out (by simp [laws_FnOrdCompare.j2])
          | succ kj43 =>
           have H := HA.out
           clear HA
           simp only [laws_FnOrdCompare.j2] at H
           by_cases c62 : x74_43 = true
           ·subst c62
            have H1 : (some false) = some r := by rw [if_pos rfl] at H;exact H
            clear H
            have H := H1
            clear H1
            obtain rfl := Option.some.inj H
            go_wp2
            go_ret
            exact ⟨by first|rfl|(simp [errW_none,errW_some] <;> rfl)|(simp [*,errW_none,errW_some] <;> rfl),bz⟩
           ·replace c62 := Bool.eq_false_iff.mpr c62
            subst c62
            have H1 : ((impl_OrdCompare.f kj43 t674 t673).bind fun t694 => (if t694 = (wrap64 (-t679)) then ((laws_sameInts.f kj43 t673 t674).bind fun t695 => (some ((t679 == 0) == t695))) else (some false))) = some r := by rw [if_neg (show ¬ (false = true) by decide)] at H;exact H
            clear H
            have H := H1
            clear H1
            replace H := Option.bind_eq_some_iff.mp H
            obtain ⟨t694,A630,H⟩ := H
            replace H : (if t694 = (wrap64 (-t679)) then ((laws_sameInts.f kj43 t673 t674).bind fun t695 => (some ((t679 == 0) == t695))) else (some false)) = some r := H
            have A63 := Aside0.mk A630
            clear A630
            by_cases c64 : t694 = (wrap64 (-t679))
            ·rw [if_pos c64] at H
             have c64b0 : (t694 == (wrap64 (-t679))) = true := beq_iff_eq.mpr c64
             have c64b1 : (t694 != (wrap64 (-t679))) = false := bne_eq_false_iff_eq.mpr c64
             clear c64
             replace H := Option.bind_eq_some_iff.mp H
             obtain ⟨t695,A650,H⟩ := H
             replace H : (some ((t679 == 0) == t695)) = some r := H
             have A65 := Aside0.mk A650
             clear A650
             obtain rfl := Option.some.inj H
             go_wp2_with (first|((with_reducible refine gate_callee (f := 28) rfl ?_);refine goesL_ (some 77) rfl rfl Try.func28 (by kernel_rfl) rfl #[.slice Ao22 t674.length co22,.slice Ao21 t673.length co21] rfl az ?_;(with_reducible refine (impl_OrdCompare.calls kj43 _ _ t674 _ _ t673 t694 _ ?side1 ?side2 ?side3 ?side4 A63.out).mono ?_);(case side1 => exact Kd.Cz (Kd.R_reads' HO_6.out).2.2);(case side2 => exact (Kd.R_reads' HO_6.out).2.1);(case side3 => exact Kd.Cz (Kd.R_reads' HO_5.out).2.2);(case side4 => exact (Kd.R_reads' HO_5.out).2.1);rintro e w66 ⟨rfl,hb⟩;refine ⟨_,rfl,?_⟩;have n0_ := Aside0.mk (Kd.R_below (Kd.Rz HO_5.out) hb);have n1_ := Aside0.mk (Kd.R_below (Kd.Rz HO_6.out) hb);have n2_ := Aside0.mk (below_step bz hb);clear HO_5;clear HO_6;clear HB;have HO_5 := n0_;have HO_6 := n1_;have HB := n2_;clear n0_ n1_ n2_;(try clear hb);(try clear hb2);(try clear hk);(try clear hi))|(go_at_call 17;(with_reducible refine (laws_sameInts.calls kj43 _ _ t673 _ _ t674 t695 _ ?side1 ?side2 ?side3 ?side4 A65.out).mono ?_);(case side1 => exact Kd.Cz (Kd.R_reads' HO_5.out).2.2);(case side2 => exact (Kd.R_reads' HO_5.out).2.1);(case side3 => exact Kd.Cz (Kd.R_reads' HO_6.out).2.2);(case side4 => exact (Kd.R_reads' HO_6.out).2.1);rintro e w' ⟨rfl,⟨nd,rfl⟩⟩))
             go_ret
             exact ⟨by first|rfl|(simp [errW_none,errW_some] <;> rfl)|(simp [*,errW_none,errW_some] <;> rfl),bz⟩
            ·rw [if_neg c64] at H
             have c64b0 : (t694 == (wrap64 (-t679))) = false := beq_eq_false_iff_ne.mpr c64
             have c64b1 : (t694 != (wrap64 (-t679))) = true := bne_iff_ne.mpr c64
             obtain rfl := Option.some.inj H
             go_wp2_with (first|((with_reducible refine gate_callee (f := 28) rfl ?_);refine goesL_ (some 77) rfl rfl Try.func28 (by kernel_rfl) rfl #[.slice Ao22 t674.length co22,.slice Ao21 t673.length co21] rfl az ?_;(with_reducible refine (impl_OrdCompare.calls kj43 _ _ t674 _ _ t673 t694 _ ?side1 ?side2 ?side3 ?side4 A63.out).mono ?_);(case side1 => exact Kd.Cz (Kd.R_reads' HO_6.out).2.2);(case side2 => exact (Kd.R_reads' HO_6.out).2.1);(case side3 => exact Kd.Cz (Kd.R_reads' HO_5.out).2.2);(case side4 => exact (Kd.R_reads' HO_5.out).2.1);rintro e w67 ⟨rfl,hb⟩;refine ⟨_,rfl,?_⟩;have n0_ := Aside0.mk (Kd.R_below (Kd.Rz HO_5.out) hb);have n1_ := Aside0.mk (Kd.R_below (Kd.Rz HO_6.out) hb);have n2_ := Aside0.mk (below_step bz hb);clear HO_5;clear HO_6;clear HB;have HO_5 := n0_;have HO_6 := n1_;have HB := n2_;clear n0_ n1_ n2_;(try clear hb);(try clear hb2);(try clear hk);(try clear hi)))
             go_ret
             exact ⟨by first|rfl|(simp [errW_none,errW_some] <;> rfl)|(simp [*,errW_none,errW_some] <;> rfl),bz⟩
    ·rw [if_neg c9] at H
     have c9b0 : (t679 == t680) = false := beq_eq_false_iff_ne.mpr c9
     have c9b1 : (t679 != t680) = true := bne_iff_ne.mpr c9
     obtain rfl := Option.some.inj H
     go_wp2_with (first|((with_reducible refine gate_callee (f := 31) rfl ?_);refine goesL_ (some 20) rfl rfl Try.func31 (by kernel_rfl) rfl #[.slice A0 l0.length c0] rfl az ?_;(with_reducible refine (spec_DrawOrdCompare.calls kj2 _ _ l0 t673 t674 _ ?side1 ?side2 A6.out).mono ?_);(case side1 => exact Kd.Cz (Kd.C_below HR0.out HB.out));(case side2 => exact HC0.out);rintro e w68 ⟨v675,v677,rfl,ho0,ho1,hb⟩;refine ⟨_,rfl,?_⟩;have n0_ := Aside0.mk (Kd.R_lower ho0 (below_size bz));have n1_ := Aside0.mk (Kd.R_lower ho1 (below_size bz));have n2_ := Aside0.mk (below_step bz hb);clear HB;have HO676 := n0_;have HO678 := n1_;have HB := n2_;clear n0_ n1_ n2_;(try clear hb);(try clear hb2);(try clear hk);(try clear hi);(try clear ho0);(try clear ho1);obtain ⟨Ao69,co69,eo69⟩ := Kd.R_slice HO676.out;subst eo69;obtain ⟨Ao70,co70,eo70⟩ := Kd.R_slice HO678.out;subst eo70)|((with_reducible refine gate_callee (f := 28) rfl ?_);refine goesL_ (some 25) rfl rfl Try.func28 (by kernel_rfl) rfl #[.slice Ao69 t673.length co69,.slice Ao70 t674.length co70] rfl az ?_;(with_reducible refine (impl_OrdCompare.calls kj2 _ _ t673 _ _ t674 t679 _ ?side1 ?side2 ?side3 ?side4 A7.out).mono ?_);(case side1 => exact Kd.Cz (Kd.R_reads' HO676.out).2.2);(case side2 => exact (Kd.R_reads' HO676.out).2.1);(case side3 => exact Kd.Cz (Kd.R_reads' HO678.out).2.2);(case side4 => exact (Kd.R_reads' HO678.out).2.1);rintro e w71 ⟨rfl,hb⟩;refine ⟨_,rfl,?_⟩;have n0_ := Aside0.mk (Kd.R_below (Kd.Rz HO676.out) hb);have n1_ := Aside0.mk (Kd.R_below (Kd.Rz HO678.out) hb);have n2_ := Aside0.mk (below_step bz hb);clear HO676;clear HO678;clear HB;have HO676 := n0_;have HO678 := n1_;have HB := n2_;clear n0_ n1_ n2_;(try clear hb);(try clear hb2);(try clear hk);(try clear hi))|((with_reducible refine gate_callee (f := 32) rfl ?_);refine goesL_ (some 29) rfl rfl Try.func32 (by kernel_rfl) rfl #[.slice Ao69 t673.length co69,.slice Ao70 t674.length co70] rfl az ?_;(with_reducible refine (spec_OrdCompare.calls kj2 _ _ t673 _ _ t674 t680 _ ?side1 ?side2 ?side3 ?side4 A8.out).mono ?_);(case side1 => exact Kd.Cz (Kd.R_reads' HO676.out).2.2);(case side2 => exact (Kd.R_reads' HO676.out).2.1);(case side3 => exact Kd.Cz (Kd.R_reads' HO678.out).2.2);(case side4 => exact (Kd.R_reads' HO678.out).2.1);rintro e w72 ⟨rfl,hb⟩;refine ⟨_,rfl,?_⟩;have n0_ := Aside0.mk (Kd.R_below (Kd.Rz HO676.out) hb);have n1_ := Aside0.mk (Kd.R_below (Kd.Rz HO678.out) hb);have n2_ := Aside0.mk (below_step bz hb);clear HO676;clear HO678;clear HB;have HO676 := n0_;have HO678 := n1_;have HB := n2_;clear n0_ n1_ n2_;(try clear hb);(try clear hb2);(try clear hk);(try clear hi)))
     go_ret
     exact ⟨by first|rfl|(simp [errW_none,errW_some] <;> rfl)|(simp [*,errW_none,errW_some] <;> rfl),bz⟩

/-- THE ONE PURE STATEMENT of laws_FnOrdCompare: yours. -/
def laws_FnOrdCompare.Pure : Prop := ∀ (l0 : List Int) (l1 : List Int),l0.length ≤ maxLen → l0.length * 1 ≤ 140737488351232 → (∀ x ∈ l0,(Lit.int .u8 x).wf = true) → l1.length ≤ maxLen → l1.length * 1 ≤ 140737488351232 → (∀ x ∈ l1,(Lit.int .u8 x).wf = true) → ∃ k,laws_FnOrdCompare.f k l0 l1 = some true
theorem laws_FnOrdCompare.walk (P : laws_FnOrdCompare.Pure) (a0 : Option Addr) (len0 cap0 : Nat) (z0 : List Int) (a1 : Option Addr) (len1 cap1 : Nat) (z1 : List Int) (w : World) (w0 : (a0 = none ∧ len0 = 0 ∧ cap0 = 0 ∧ z0 = []) ∨ ∃ x,a0 = some x ∧ len0 ≤ cap0 ∧ cap0 ≤ maxLen ∧ z0.length = cap0 ∧ (∀ i,i < z0.length → w.cell? (x.add i) = some (.int .u8 (z0.getD i 0))) ∧ ∀ n ∈ z0,(Lit.int .u8 n).wf = true) (y0 : len0 * 1 ≤ 140737488351232) (w1 : (a1 = none ∧ len1 = 0 ∧ cap1 = 0 ∧ z1 = []) ∨ ∃ x,a1 = some x ∧ len1 ≤ cap1 ∧ cap1 ≤ maxLen ∧ z1.length = cap1 ∧ (∀ i,i < z1.length → w.cell? (x.add i) = some (.int .u8 (z1.getD i 0))) ∧ ∀ n ∈ z1,(Lit.int .u8 n).wf = true) (y1 : len1 * 1 ≤ 140737488351232) :
  Calls Try.prog 7 #[.slice a0 len0 cap0,.slice a1 len1 cap1] w fun e w' => e = .returned (.bool true) ∧ Below w.heap.size w w' := by
 obtain ⟨l0,rfl,hr0,hm0,hw0,hc0⟩ := ReadsInt.ofRowC w0
 obtain ⟨l1,rfl,hr1,hm1,hw1,hc1⟩ := ReadsInt.ofRowC w1
 obtain ⟨k,h⟩ := P l0 l1 hm0 y0 hw0 hm1 y1 hw1
 refine (laws_FnOrdCompare.calls k _ _ l0 _ _ l1 true w (Kd.C_of_reads (d := (0 : Int)) (h1 := fun _ => rfl) hr0) hc0 (Kd.C_of_reads (d := (0 : Int)) (h1 := fun _ => rfl) hr1) hc1 h).mono ?_
 rintro e w' ⟨rfl,hd⟩
 exact ⟨rfl,hd⟩

end Go.Proofs.Ytninfokihgbgpaa.P
