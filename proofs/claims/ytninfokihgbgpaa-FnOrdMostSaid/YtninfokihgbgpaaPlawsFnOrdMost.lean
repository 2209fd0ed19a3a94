/- The walk of one Go function that the law reaches: it comes to what the Lean function of its name tells. -/
import Derived.Test.YtninfokihgbgpaaP0
import Derived.Test.YtninfokihgbgpaaPimplOrdMost
import Derived.Test.YtninfokihgbgpaaPimplOrdNatural
import Derived.Test.YtninfokihgbgpaaPlawsalive
import Derived.Test.YtninfokihgbgpaaPspecDrawOrdMost
import Derived.Test.YtninfokihgbgpaaPspecOrdMost
namespace Go.Proofs.Ytninfokihgbgpaa.P
open Go.RowKit Go.Proofs.YtninfokihgbgpaaW.PrintWords Go.Proofs.YtninfokihgbgpaaW.PrintLast Go.Proofs.YtninfokihgbgpaaW.PrintMore
attribute [local go_sem] max2_int min2_int max_two min_two max_three min_three max_four min_four   
set_option linter.unusedVariables false
set_option linter.unusedSimpArgs false

/-! ### laws_FnOrdMost: function 8 -/
def laws_FnOrdMost.j0 : Nat → List Int → List Int → Bool → Option (Bool)
 | 0,_,_,_ => none
 | k + 1,x0,x1,x17 => if x17 = true then (some true) else ((spec_DrawOrdMost.f k x0).bind fun t786 => ((impl_OrdMost.f k t786).bind fun t789 => ((spec_OrdMost.f k t786).bind fun t790 => (if t789 = t790 then (if t789 < 0 then (if t789 = (-1) then ((laws_alive.f k).bind fun t791 => (some t791)) else (some false)) else ((spec_DrawOrdMost.f k x1).bind fun t792 => ((impl_OrdNatural.f k t786 t792).bind fun bt795 => (if ((t789 == 0) == ((t786.length : Int) == 1)) = true then (if (t786.length : Int) < 2 then (if bt795.2 = true then ((impl_OrdMost.f k bt795.1).bind fun t799 => ((impl_OrdMost.f k t792).bind fun t800 => (some (decide (t799 ≤ (wrap64 (t789 + t800))))))) else (some true)) else (if 1 < (t786.length : Int) then (if (rd t786 1) ≤ t789 then (if bt795.2 = true then ((impl_OrdMost.f k bt795.1).bind fun t802 => ((impl_OrdMost.f k t792).bind fun t803 => (some (decide (t802 ≤ (wrap64 (t789 + t803))))))) else (some true)) else (some false)) else (none))) else (some false))))) else (some false)))))
def laws_FnOrdMost.f (k : Nat) (l0 : List Int) (l1 : List Int) : Option (Bool) := if (l0.length : Int) > 1048576 then (laws_FnOrdMost.j0 k l0 l1 true) else (laws_FnOrdMost.j0 k l0 l1 (decide ((l1.length : Int) > 1048576)))
theorem laws_FnOrdMost.mono_l : ∀ k,(∀ y0 y1 y2,LeO (laws_FnOrdMost.j0 k y0 y1 y2) (laws_FnOrdMost.j0 (k + 1) y0 y1 y2))
 | 0 => fun _ _ _ r h => by simp [laws_FnOrdMost.j0] at h
 | k + 1 => by
  have ih0 := laws_FnOrdMost.mono_l k
  ·intro y0 y1 y2
   unfold laws_FnOrdMost.j0
   repeat' first|(with_reducible first|exact ih0 _ _ _|exact impl_OrdMost.mono _ _|exact impl_OrdNatural.mono _ _ _|exact laws_alive.mono _|exact spec_DrawOrdMost.mono _ _|exact spec_OrdMost.mono _ _|exact LeO.refl _|exact LeO.none _|refine LeO.ite ?_ ?_|refine LeO.bind ?_ (fun _ => ?_))|exact ih0 _ _ _|exact impl_OrdMost.mono _ _|exact impl_OrdNatural.mono _ _ _|exact laws_alive.mono _|exact spec_DrawOrdMost.mono _ _|exact spec_OrdMost.mono _ _|exact LeO.none _|refine LeO.ite ?_ ?_|refine LeO.bind ?_ (fun _ => ?_)
theorem laws_FnOrdMost.mono : ∀ a0 a1 k,LeO (laws_FnOrdMost.f k a0 a1) (laws_FnOrdMost.f (k + 1) a0 a1) := by
 intro a0 a1 k
 have ih0 := laws_FnOrdMost.mono_l k
 unfold laws_FnOrdMost.f
 repeat' first|(with_reducible first|exact ih0 _ _ _|exact LeO.refl _|exact LeO.none _|refine LeO.ite ?_ ?_|refine LeO.bind ?_ (fun _ => ?_))|exact ih0 _ _ _|exact LeO.none _|refine LeO.ite ?_ ?_|refine LeO.bind ?_ (fun _ => ?_)
set_option maxHeartbeats 8000000 in
set_option maxRecDepth 100000 in
theorem laws_FnOrdMost.calls (k : Nat) (A0 : Option Addr) (c0 : Nat) (l0 : List Int) (A1 : Option Addr) (c1 : Nat) (l1 : List Int) (r : Bool) (w : World) (hr0 : Kd.C (Kd.int .u8) w A0 l0.length l0) (hc0 : l0.length ≤ c0) (hr1 : Kd.C (Kd.int .u8) w A1 l1.length l1) (hc1 : l1.length ≤ c1) (h : laws_FnOrdMost.f k l0 l1 = some r) :
  Calls Try.prog 8 #[.slice A0 l0.length c0,.slice A1 l1.length c1] w fun e w' => e = .returned (.bool r) ∧ Below w.heap.size w w' := by
 have HR0 := Aside0.mk hr0
 have HC0 := Aside0.mk hc0
 clear hr0 hc0
 have HR1 := Aside0.mk hr1
 have HC1 := Aside0.mk hc1
 clear hr1 hc1
 have HB := Aside0.mk (Below.refl w.heap.size w)
 have H : (if (l0.length : Int) > 1048576 then (laws_FnOrdMost.j0 k l0 l1 true) else (laws_FnOrdMost.j0 k l0 l1 (decide ((l1.length : Int) > 1048576)))) = some r := h
 clear h
 have HC3 := Aside0.mk H
 clear H
 go_enter Try.func8,Try.ntmps8
 go_upto_region 1 with (fail)
 go_cut [17] (fun v17 wc => ∃ (kq : Nat) (x17_2 : Bool),v17 = .bool x17_2 ∧ Aside0 (laws_FnOrdMost.j0 kq l0 l1 x17_2 = some r) ∧ Aside0 (kq ≤ k) ∧ Aside0 (Below w.heap.size w wc))
 case first =>
  have H := HC3.out
  clear HC3
  by_cases c4 : (l0.length : Int) > 1048576
  ·rw [if_pos c4] at H
   have c4b0 : decide (1048576 < (l0.length : Int)) = true := decide_eq_true c4
   have c4b1 : decide (1048576 < l0.length) = true := decide_eq_true (by omega)
   clear c4
   (first|rw [c4b0]|(simp only [i64_w,i32_w];rw [c4b0])|skip)
   have H' := Aside0.mk H
   clear H
   go_wp2
   go_meet
   case rel => exact ⟨_,(true),(by first|rfl|(simp;done)|(simp [*];done)),H',⟨by first|omega|exact Nat.le_refl _⟩,⟨bz⟩⟩
  ·rw [if_neg c4] at H
   have c4b0 : decide (1048576 < (l0.length : Int)) = false := decide_eq_false c4
   have c4b1 : decide (1048576 < l0.length) = false := decide_eq_false (by omega)
   clear c4
   (first|rw [c4b0]|(simp only [i64_w,i32_w];rw [c4b0])|skip)
   have H' := Aside0.mk H
   clear H
   go_wp2
   go_meet
   case rel => exact ⟨_,(decide ((l1.length : Int) > 1048576)),(by first|rfl|(simp;done)|(simp [*];done)),H',⟨by first|omega|exact Nat.le_refl _⟩,⟨bz⟩⟩
 case rest =>
  clear HC3
  try clear c1
  try clear p2
  try clear c4
  try clear c4b0
  try clear c4b1
  obtain ⟨kq,x17_2,rfl,HA,HJ2,HB⟩ := hcut
  cases kq with
  | zero => exact absurd HA.out (by simp [laws_FnOrdMost.j0])
  | succ kj2 =>
   have H := HA.out
   clear HA
   simp only [laws_FnOrdMost.j0] at H
   by_cases c5 : x17_2 = true
   ·subst c5
    have H1 : (some true) = some r := by rw [if_pos rfl] at H;exact H
    clear H
    have H := H1
    clear H1
    obtain rfl := Option.some.inj H
    go_wp2
    go_ret
    exact ⟨by first|rfl|(simp [errW_none,errW_some] <;> rfl)|(simp [*,errW_none,errW_some] <;> rfl),bz⟩
   ·replace c5 := Bool.eq_false_iff.mpr c5
    subst c5
    have H1 : ((spec_DrawOrdMost.f kj2 l0).bind fun t786 => ((impl_OrdMost.f kj2 t786).bind fun t789 => ((spec_OrdMost.f kj2 t786).bind fun t790 => (if t789 = t790 then (if t789 < 0 then (if t789 = (-1) then ((laws_alive.f kj2).bind fun t791 => (some t791)) else (some false)) else ((spec_DrawOrdMost.f kj2 l1).bind fun t792 => ((impl_OrdNatural.f kj2 t786 t792).bind fun bt795 => (if ((t789 == 0) == ((t786.length : Int) == 1)) = true then (if (t786.length : Int) < 2 then (if bt795.2 = true then ((impl_OrdMost.f kj2 bt795.1).bind fun t799 => ((impl_OrdMost.f kj2 t792).bind fun t800 => (some (decide (t799 ≤ (wrap64 (t789 + t800))))))) else (some true)) else (if 1 < (t786.length : Int) then (if (rd t786 1) ≤ t789 then (if bt795.2 = true then ((impl_OrdMost.f kj2 bt795.1).bind fun t802 => ((impl_OrdMost.f kj2 t792).bind fun t803 => (some (decide (t802 ≤ (wrap64 (t789 + t803))))))) else (some true)) else (some false)) else (none))) else (some false))))) else (some false))))) = some r := by rw [if_neg (show ¬ (false = true) by decide)] at H;exact H
    clear H
    have H := H1
    clear H1
    replace H := Option.bind_eq_some_iff.mp H
    obtain ⟨t786,A60,H⟩ := H
    replace H : ((impl_OrdMost.f kj2 t786).bind fun t789 => ((spec_OrdMost.f kj2 t786).bind fun t790 => (if t789 = t790 then (if t789 < 0 then (if t789 = (-1) then ((laws_alive.f kj2).bind fun t791 => (some t791)) else (some false)) else ((spec_DrawOrdMost.f kj2 l1).bind fun t792 => ((impl_OrdNatural.f kj2 t786 t792).bind fun bt795 => (if ((t789 == 0) == ((t786.length : Int) == 1)) = true then (if (t786.length : Int) < 2 then (if bt795.2 = true then ((impl_OrdMost.f kj2 bt795.1).bind fun t799 => ((impl_OrdMost.f kj2 t792).bind fun t800 => (some (decide (t799 ≤ (wrap64 (t789 + t800))))))) else (some true)) else (if 1 < (t786.length : Int) then (if (rd t786 1) ≤ t789 then (if bt795.2 = true then ((impl_OrdMost.f kj2 bt795.1).bind fun t802 => ((impl_OrdMost.f kj2 t792).bind fun t803 => (some (decide (t802 ≤ (wrap64 (t789 + t803))))))) else (some true)) else (some false)) else (none))) else (some false))))) else (some false)))) = some r := H
    have A6 := Aside0.mk A60
    clear A60
    replace H := Option.bind_eq_some_iff.mp H
    obtain ⟨t789,A70,H⟩ := H
    replace H : ((spec_OrdMost.f kj2 t786).bind fun t790 => (if t789 = t790 then (if t789 < 0 then (if t789 = (-1) then ((laws_alive.f kj2).bind fun t791 => (some t791)) else (some false)) else ((spec_DrawOrdMost.f kj2 l1).bind fun t792 => ((impl_OrdNatural.f kj2 t786 t792).bind fun bt795 => (if ((t789 == 0) == ((t786.length : Int) == 1)) = true then (if (t786.length : Int) < 2 then (if bt795.2 = true then ((impl_OrdMost.f kj2 bt795.1).bind fun t799 => ((impl_OrdMost.f kj2 t792).bind fun t800 => (some (decide (t799 ≤ (wrap64 (t789 + t800))))))) else (some true)) else (if 1 < (t786.length : Int) then (if (rd t786 1) ≤ t789 then (if bt795.2 = true then ((impl_OrdMost.f kj2 bt795.1).bind fun t802 => ((impl_OrdMost.f kj2 t792).bind fun t803 => (some (decide (t802 ≤ (wrap64 (t789 + t803))))))) else (some true)) else (some false)) else (none))) else (some false))))) else (some false))) = some r := H
    have A7 := Aside0.mk A70
    clear A70
    replace H := Option.bind_eq_some_iff.mp H
    obtain ⟨t790,A80,H⟩ := H
    replace H : (if t789 = t790 then (if t789 < 0 then (if t789 = (-1) then ((laws_alive.f kj2).bind fun t791 => (some t791)) else (some false)) else ((spec_DrawOrdMost.f kj2 l1).bind fun t792 => ((impl_OrdNatural.f kj2 t786 t792).bind fun bt795 => (if ((t789 == 0) == ((t786.length : Int) == 1)) = true then (if (t786.length : Int) < 2 then (if bt795.2 = true then ((impl_OrdMost.f kj2 bt795.1).bind fun t799 => ((impl_OrdMost.f kj2 t792).bind fun t800 => (some (decide (t799 ≤ (wrap64 (t789 + t800))))))) else (some true)) else (if 1 < (t786.length : Int) then (if (rd t786 1) ≤ t789 then (if bt795.2 = true then ((impl_OrdMost.f kj2 bt795.1).bind fun t802 => ((impl_OrdMost.f kj2 t792).bind fun t803 => (some (decide (t802 ≤ (wrap64 (t789 + t803))))))) else (some true)) else (some false)) else (none))) else (some false))))) else (some false)) = some r := H
    have A8 := Aside0.mk A80
    clear A80
    by_cases c9 : t789 = t790
    ·rw [if_pos c9] at H
     have c9b0 : (t789 == t790) = true := beq_iff_eq.mpr c9
     have c9b1 : (t789 != t790) = false := bne_eq_false_iff_eq.mpr c9
     clear c9
     by_cases c10 : t789 < 0
     ·rw [if_pos c10] at H
      have c10b0 : decide (t789 < 0) = true := decide_eq_true c10
      clear c10
      by_cases c11 : t789 = (-1)
      ·rw [if_pos c11] at H
       have c11b0 : (t789 == (-1)) = true := beq_iff_eq.mpr c11
       have c11b1 : (t789 != (-1)) = false := bne_eq_false_iff_eq.mpr c11
       clear c11
       replace H := Option.bind_eq_some_iff.mp H
       obtain ⟨t791,A120,H⟩ := H
       replace H : (some t791) = some r := H
       have A12 := Aside0.mk A120
       clear A120
       obtain rfl := Option.some.inj H
       go_wp2_with (first|((with_reducible refine gate_callee (f := 33) rfl ?_);refine goesL_ (some 19) rfl rfl Try.func33 (by kernel_rfl) rfl #[.slice A0 l0.length c0] rfl az ?_;(with_reducible refine (spec_DrawOrdMost.calls kj2 _ _ l0 t786 _ ?side1 ?side2 A6.out).mono ?_);(case side1 => exact Kd.Cz (Kd.C_below HR0.out HB.out));(case side2 => exact HC0.out);rintro e w13 ⟨v787,rfl,ho0,hb⟩;refine ⟨_,rfl,?_⟩;have n0_ := Aside0.mk (Kd.R_lower ho0 (below_size bz));have n1_ := Aside0.mk (below_step bz hb);clear HB;have HO788 := n0_;have HB := n1_;clear n0_ n1_;(try clear hb);(try clear hb2);(try clear hk);(try clear hi);(try clear ho0);obtain ⟨Ao14,co14,eo14⟩ := Kd.R_slice HO788.out;subst eo14)|((with_reducible refine gate_callee (f := 34) rfl ?_);refine goesL_ (some 21) rfl rfl Try.func34 (by kernel_rfl) rfl #[.slice Ao14 t786.length co14] rfl az ?_;(with_reducible refine (impl_OrdMost.calls kj2 _ _ t786 t789 _ ?side1 ?side2 A7.out).mono ?_);(case side1 => exact Kd.Cz (Kd.R_reads' HO788.out).2.2);(case side2 => exact (Kd.R_reads' HO788.out).2.1);rintro e w15 ⟨rfl,hb⟩;refine ⟨_,rfl,?_⟩;have n0_ := Aside0.mk (Kd.R_below (Kd.Rz HO788.out) hb);have n1_ := Aside0.mk (below_step bz hb);clear HO788;clear HB;have HO788 := n0_;have HB := n1_;clear n0_ n1_;(try clear hb);(try clear hb2);(try clear hk);(try clear hi))|((with_reducible refine gate_callee (f := 35) rfl ?_);refine goesL_ (some 24) rfl rfl Try.func35 (by kernel_rfl) rfl #[.slice Ao14 t786.length co14] rfl az ?_;(with_reducible refine (spec_OrdMost.calls kj2 _ _ t786 t790 _ ?side1 ?side2 A8.out).mono ?_);(case side1 => exact Kd.Cz (Kd.R_reads' HO788.out).2.2);(case side2 => exact (Kd.R_reads' HO788.out).2.1);rintro e w16 ⟨rfl,hb⟩;refine ⟨_,rfl,?_⟩;have n0_ := Aside0.mk (Kd.R_below (Kd.Rz HO788.out) hb);have n1_ := Aside0.mk (below_step bz hb);clear HO788;clear HB;have HO788 := n0_;have HB := n1_;clear n0_ n1_;(try clear hb);(try clear hb2);(try clear hk);(try clear hi))|(go_at_call 19;(with_reducible refine (laws_alive.calls kj2  t791 _ A12.out).mono ?_);rintro e w17 ⟨rfl,hb⟩;have n0_ := Aside0.mk (Kd.R_below (Kd.Rz HO788.out) hb);have n1_ := Aside0.mk (below_step bz hb);clear HO788;clear HB;have HO788 := n0_;have HB := n1_;clear n0_ n1_;(try clear hb);(try clear hb2);(try clear hk);(try clear hi)))
       go_ret
       exact ⟨by first|rfl|(simp [errW_none,errW_some] <;> rfl)|(simp [*,errW_none,errW_some] <;> rfl),bz⟩
      ·rw [if_neg c11] at H
       have c11b0 : (t789 == (-1)) = false := beq_eq_false_iff_ne.mpr c11
       have c11b1 : (t789 != (-1)) = true := bne_iff_ne.mpr c11
       obtain rfl := Option.some.inj H
       go_wp2_with (first|((with_reducible refine gate_callee (f := 33) rfl ?_);refine goesL_ (some 19) rfl rfl Try.func33 (by kernel_rfl) rfl #[.slice A0 l0.length c0] rfl az ?_;(with_reducible refine (spec_DrawOrdMost.calls kj2 _ _ l0 t786 _ ?side1 ?side2 A6.out).mono ?_);(case side1 => exact Kd.Cz (Kd.C_below HR0.out HB.out));(case side2 => exact HC0.out);rintro e w18 ⟨v787,rfl,ho0,hb⟩;refine ⟨_,rfl,?_⟩;have n0_ := Aside0.mk (Kd.R_lower ho0 (below_size bz));have n1_ := Aside0.mk (below_step bz hb);clear HB;have HO788 := n0_;have HB := n1_;clear n0_ n1_;(try clear hb);(try clear hb2);(try clear hk);(try clear hi);(try clear ho0);obtain ⟨Ao19,co19,eo19⟩ := Kd.R_slice HO788.out;subst eo19)|((with_reducible refine gate_callee (f := 34) rfl ?_);refine goesL_ (some 21) rfl rfl Try.func34 (by kernel_rfl) rfl #[.slice Ao19 t786.length co19] rfl az ?_;(with_reducible refine (impl_OrdMost.calls kj2 _ _ t786 t789 _ ?side1 ?side2 A7.out).mono ?_);(case side1 => exact Kd.Cz (Kd.R_reads' HO788.out).2.2);(case side2 => exact (Kd.R_reads' HO788.out).2.1);rintro e w20 ⟨rfl,hb⟩;refine ⟨_,rfl,?_⟩;have n0_ := Aside0.mk (Kd.R_below (Kd.Rz HO788.out) hb);have n1_ := Aside0.mk (below_step bz hb);clear HO788;clear HB;have HO788 := n0_;have HB := n1_;clear n0_ n1_;(try clear hb);(try clear hb2);(try clear hk);(try clear hi))|((with_reducible refine gate_callee (f := 35) rfl ?_);refine goesL_ (some 24) rfl rfl Try.func35 (by kernel_rfl) rfl #[.slice Ao19 t786.length co19] rfl az ?_;(with_reducible refine (spec_OrdMost.calls kj2 _ _ t786 t790 _ ?side1 ?side2 A8.out).mono ?_);(case side1 => exact Kd.Cz (Kd.R_reads' HO788.out).2.2);(case side2 => exact (Kd.R_reads' HO788.out).2.1);rintro e w21 ⟨rfl,hb⟩;refine ⟨_,rfl,?_⟩;have n0_ := Aside0.mk (Kd.R_below (Kd.Rz HO788.out) hb);have n1_ := Aside0.mk (below_step bz hb);clear HO788;clear HB;have HO788 := n0_;have HB := n1_;clear n0_ n1_;(try clear hb);(try clear hb2);(try clear hk);(try clear hi)))
       go_ret
       exact ⟨by first|rfl|(simp [errW_none,errW_some] <;> rfl)|(simp [*,errW_none,errW_some] <;> rfl),bz⟩
     ·rw [if_neg c10] at H
      have c10b0 : decide (t789 < 0) = false := decide_eq_false c10
      clear c10
      replace H := Option.bind_eq_some_iff.mp H
      obtain ⟨t792,A220,H⟩ := H
      replace H : ((impl_OrdNatural.f kj2 t786 t792).bind fun bt795 => (if ((t789 == 0) == ((t786.length : Int) == 1)) = true then (if (t786.length : Int) < 2 then (if bt795.2 = true then ((impl_OrdMost.f kj2 bt795.1).bind fun t799 => ((impl_OrdMost.f kj2 t792).bind fun t800 => (some (decide (t799 ≤ (wrap64 (t789 + t800))))))) else (some true)) else (if 1 < (t786.length : Int) then (if (rd t786 1) ≤ t789 then (if bt795.2 = true then ((impl_OrdMost.f kj2 bt795.1).bind fun t802 => ((impl_OrdMost.f kj2 t792).bind fun t803 => (some (decide (t802 ≤ (wrap64 (t789 + t803))))))) else (some true)) else (some false)) else (none))) else (some false))) = some r := H
      have A22 := Aside0.mk A220
      clear A220
      replace H := Option.bind_eq_some_iff.mp H
      obtain ⟨⟨t795,t796⟩,A230,H⟩ := H
      replace H : (if ((t789 == 0) == ((t786.length : Int) == 1)) = true then (if (t786.length : Int) < 2 then (if t796 = true then ((impl_OrdMost.f kj2 t795).bind fun t799 => ((impl_OrdMost.f kj2 t792).bind fun t800 => (some (decide (t799 ≤ (wrap64 (t789 + t800))))))) else (some true)) else (if 1 < (t786.length : Int) then (if (rd t786 1) ≤ t789 then (if t796 = true then ((impl_OrdMost.f kj2 t795).bind fun t802 => ((impl_OrdMost.f kj2 t792).bind fun t803 => (some (decide (t802 ≤ (wrap64 (t789 + t803))))))) else (some true)) else (some false)) else (none))) else (some false)) = some r := H
      have A23 := Aside0.mk A230
      clear A230
      by_cases c24 : ((t789 == 0) == ((t786.length : Int) == 1)) = true
      ·rw [if_pos c24] at H
       have c24b0 : ((t789 == 0) == ((t786.length : Int) == 1)) = true := c24
       (try (have c24b1 : decide ((t789 == 0) = ((t786.length : Int) == 1)) = true := by simpa using c24))
       (try (have c24b2 : ((t789 == 0) == ((t786.length : Int) == 1)) = true := by simpa using c24))
       clear c24
       by_cases c25 : (t786.length : Int) < 2
       ·rw [if_pos c25] at H
        have c25b0 : decide ((t786.length : Int) < 2) = true := decide_eq_true c25
        have c25b1 : decide (t786.length < 2) = true := decide_eq_true (by omega)
        clear c25
        by_cases c26 : t796 = true
        ·subst c26
         have H1 : ((impl_OrdMost.f kj2 t795).bind fun t799 => ((impl_OrdMost.f kj2 t792).bind fun t800 => (some (decide (t799 ≤ (wrap64 (t789 + t800))))))) = some r := by rw [if_pos rfl] at H;exact H
         clear H
         have H := H1
         clear H1
         replace H := Option.bind_eq_some_iff.mp H
         obtain ⟨t799,A270,H⟩ := H
         replace H : ((impl_OrdMost.f kj2 t792).bind fun t800 => (some (decide (t799 ≤ (wrap64 (t789 + t800)))))) = some r := H
         have A27 := Aside0.mk A270
         clear A270
         replace H := Option.bind_eq_some_iff.mp H
         obtain ⟨t800,A280,H⟩ := H
         replace H : (some (decide (t799 ≤ (wrap64 (t789 + t800))))) = some r := H
         have A28 := Aside0.mk A280
         clear A280
         obtain rfl := Option.some.inj H
         go_wp2_with (first|((with_reducible refine gate_callee (f := 33) rfl ?_);refine goesL_ (some 19) rfl rfl Try.func33 (by kernel_rfl) rfl #[.slice A0 l0.length c0] rfl az ?_;(with_reducible refine (spec_DrawOrdMost.calls kj2 _ _ l0 t786 _ ?side1 ?side2 A6.out).mono ?_);(case side1 => exact Kd.Cz (Kd.C_below HR0.out HB.out));(case side2 => exact HC0.out);rintro e w29 ⟨v787,rfl,ho0,hb⟩;refine ⟨_,rfl,?_⟩;have n0_ := Aside0.mk (Kd.R_lower ho0 (below_size bz));have n1_ := Aside0.mk (below_step bz hb);clear HB;have HO788 := n0_;have HB := n1_;clear n0_ n1_;(try clear hb);(try clear hb2);(try clear hk);(try clear hi);(try clear ho0);obtain ⟨Ao30,co30,eo30⟩ := Kd.R_slice HO788.out;subst eo30)|((with_reducible refine gate_callee (f := 34) rfl ?_);refine goesL_ (some 21) rfl rfl Try.func34 (by kernel_rfl) rfl #[.slice Ao30 t786.length co30] rfl az ?_;(with_reducible refine (impl_OrdMost.calls kj2 _ _ t786 t789 _ ?side1 ?side2 A7.out).mono ?_);(case side1 => exact Kd.Cz (Kd.R_reads' HO788.out).2.2);(case side2 => exact (Kd.R_reads' HO788.out).2.1);rintro e w31 ⟨rfl,hb⟩;refine ⟨_,rfl,?_⟩;have n0_ := Aside0.mk (Kd.R_below (Kd.Rz HO788.out) hb);have n1_ := Aside0.mk (below_step bz hb);clear HO788;clear HB;have HO788 := n0_;have HB := n1_;clear n0_ n1_;(try clear hb);(try clear hb2);(try clear hk);(try clear hi))|((with_reducible refine gate_callee (f := 35) rfl ?_);refine goesL_ (some 24) rfl rfl Try.func35 (by kernel_rfl) rfl #[.slice Ao30 t786.length co30] rfl az ?_;(with_reducible refine (spec_OrdMost.calls kj2 _ _ t786 t790 _ ?side1 ?side2 A8.out).mono ?_);(case side1 => exact Kd.Cz (Kd.R_reads' HO788.out).2.2);(case side2 => exact (Kd.R_reads' HO788.out).2.1);rintro e w32 ⟨rfl,hb⟩;refine ⟨_,rfl,?_⟩;have n0_ := Aside0.mk (Kd.R_below (Kd.Rz HO788.out) hb);have n1_ := Aside0.mk (below_step bz hb);clear HO788;clear HB;have HO788 := n0_;have HB := n1_;clear n0_ n1_;(try clear hb);(try clear hb2);(try clear hk);(try clear hi))|((with_reducible refine gate_callee (f := 33) rfl ?_);refine goesL_ (some 34) rfl rfl Try.func33 (by kernel_rfl) rfl #[.slice A1 l1.length c1] rfl az ?_;(with_reducible refine (spec_DrawOrdMost.calls kj2 _ _ l1 t792 _ ?side1 ?side2 A22.out).mono ?_);(case side1 => exact Kd.Cz (Kd.C_below HR1.out HB.out));(case side2 => exact HC1.out);rintro e w33 ⟨v793,rfl,ho0,hb⟩;refine ⟨_,rfl,?_⟩;have n0_ := Aside0.mk (Kd.R_elder' (Kd.Rz HO788.out) (Kd.R_base ho0) hb);have n1_ := Aside0.mk (Kd.R_lower (Kd.R_new' ho0 (Kd.R_lt (Kd.Rz HO788.out))) (below_size bz));have n2_ := Aside0.mk (below_step bz hb);clear HO788;clear HB;have HO788 := n0_;have HO794 := n1_;have HB := n2_;clear n0_ n1_ n2_;(try clear hb);(try clear hb2);(try clear hk);(try clear hi);(try clear ho0);obtain ⟨Ao34,co34,eo34⟩ := Kd.R_slice HO794.out;subst eo34)|((with_reducible refine gate_callee (f := 36) rfl ?_);refine goesL_ (some 38) rfl rfl Try.func36 (by kernel_rfl) rfl #[.slice Ao30 t786.length co30,.slice Ao34 t792.length co34] rfl az ?_;(with_reducible refine (impl_OrdNatural.calls kj2 _ _ t786 _ _ t792 t795 true _ ?side1 ?side2 ?side3 ?side4 A23.out).mono ?_);(case side1 => exact Kd.Cz (Kd.R_reads' HO788.out).2.2);(case side2 => exact (Kd.R_reads' HO788.out).2.1);(case side3 => exact Kd.Cz (Kd.R_reads' HO794.out).2.2);(case side4 => exact (Kd.R_reads' HO794.out).2.1);rintro e w35 ⟨v797,rfl,ho0,hb⟩;refine ⟨_,rfl,?_⟩;have n0_ := Aside0.mk (Kd.R_elder' (Kd.Rz HO788.out) (Kd.R_base ho0) hb);have n1_ := Aside0.mk (Kd.R_elder' (Kd.Rz HO794.out) (Kd.R_base ho0) hb);have n2_ := Aside0.mk (Kd.R_lower (Kd.R_new' (Kd.R_new' ho0 (Kd.R_lt (Kd.Rz HO788.out))) (Kd.R_lt (Kd.Rz HO794.out))) (below_size bz));have n3_ := Aside0.mk (below_step bz hb);clear HO788;clear HO794;clear HB;have HO788 := n0_;have HO794 := n1_;have HO798 := n2_;have HB := n3_;clear n0_ n1_ n2_ n3_;(try clear hb);(try clear hb2);(try clear hk);(try clear hi);(try clear ho0);obtain ⟨Ao36,co36,eo36⟩ := Kd.R_slice HO798.out;subst eo36)|(go_at_call 34;(with_reducible refine (impl_OrdMost.calls kj2 _ _ t795 t799 _ ?side1 ?side2 A27.out).mono ?_);(case side1 => exact Kd.Cz (Kd.R_reads' HO798.out).2.2);(case side2 => exact (Kd.R_reads' HO798.out).2.1);rintro e w37 ⟨rfl,hb⟩;have n0_ := Aside0.mk (Kd.R_below (Kd.Rz HO788.out) hb);have n1_ := Aside0.mk (Kd.R_below (Kd.Rz HO794.out) hb);have n2_ := Aside0.mk (Kd.R_below (Kd.Rz HO798.out) hb);have n3_ := Aside0.mk (below_step bz hb);clear HO788;clear HO794;clear HO798;clear HB;have HO788 := n0_;have HO794 := n1_;have HO798 := n2_;have HB := n3_;clear n0_ n1_ n2_ n3_;(try clear hb);(try clear hb2);(try clear hk);(try clear hi))|(go_at_call 34;(with_reducible refine (impl_OrdMost.calls kj2 _ _ t792 t800 _ ?side1 ?side2 A28.out).mono ?_);(case side1 => exact Kd.Cz (Kd.R_reads' HO794.out).2.2);(case side2 => exact (Kd.R_reads' HO794.out).2.1);rintro e w38 ⟨rfl,hb⟩;have n0_ := Aside0.mk (Kd.R_below (Kd.Rz HO788.out) hb);have n1_ := Aside0.mk (Kd.R_below (Kd.Rz HO794.out) hb);have n2_ := Aside0.mk (Kd.R_below (Kd.Rz HO798.out) hb);have n3_ := Aside0.mk (below_step bz hb);clear HO788;clear HO794;clear HO798;clear HB;have HO788 := n0_;have HO794 := n1_;have HO798 := n2_;have HB := n3_;clear n0_ n1_ n2_ n3_;(try clear hb);(try clear hb2);(try clear hk);(try clear hi)))
         go_ret
         exact ⟨by first|rfl|(simp [errW_none,errW_some] <;> rfl)|(simp [*,errW_none,errW_some] <;> rfl),bz⟩
        ·replace c26 := Bool.eq_false_iff.mpr c26
         subst c26
         have H1 : (some true) = some r := by rw [if_neg (show ¬ (false = true) by decide)] at H;exact H
         clear H
         have H := H1
         clear H1
         obtain rfl := Option.some.inj H
         go_wp2_with (first|((with_reducible refine gate_callee (f := 33) rfl ?_);refine goesL_ (some 19) rfl rfl Try.func33 (by kernel_rfl) rfl #[.slice A0 l0.length c0] rfl az ?_;(with_reducible refine (spec_DrawOrdMost.calls kj2 _ _ l0 t786 _ ?side1 ?side2 A6.out).mono ?_);(case side1 => exact Kd.Cz (Kd.C_below HR0.out HB.out));(case side2 => exact HC0.out);rintro e w39 ⟨v787,rfl,ho0,hb⟩;refine ⟨_,rfl,?_⟩;have n0_ := Aside0.mk (Kd.R_lower ho0 (below_size bz));have n1_ := Aside0.mk (below_step bz hb);clear HB;have HO788 := n0_;have HB := n1_;clear n0_ n1_;(try clear hb);(try clear hb2);(try clear hk);(try clear hi);(try clear ho0);obtain ⟨Ao40,co40,eo40⟩ := Kd.R_slice HO788.out;subst eo40)|((with_reducible refine gate_callee (f := 34) rfl ?_);refine goesL_ (some 21) rfl rfl Try.func34 (by kernel_rfl) rfl #[.slice Ao40 t786.length co40] rfl az ?_;(with_reducible refine (impl_OrdMost.calls kj2 _ _ t786 t789 _ ?side1 ?side2 A7.out).mono ?_);(case side1 => exact Kd.Cz (Kd.R_reads' HO788.out).2.2);(case side2 => exact (Kd.R_reads' HO788.out).2.1);rintro e w41 ⟨rfl,hb⟩;refine ⟨_,rfl,?_⟩;have n0_ := Aside0.mk (Kd.R_below (Kd.Rz HO788.out) hb);have n1_ := Aside0.mk (below_step bz hb);clear HO788;clear HB;have HO788 := n0_;have HB := n1_;clear n0_ n1_;(try clear hb);(try clear hb2);(try clear hk);(try clear hi))|((with_reducible refine gate_callee (f := 35) rfl ?_);refine goesL_ (some 24) rfl rfl Try.func35 (by kernel_rfl) rfl #[.slice Ao40 t786.length co40] rfl az ?_;(with_reducible refine (spec_OrdMost.calls kj2 _ _ t786 t790 _ ?side1 ?side2 A8.out).mono ?_);(case side1 => exact Kd.Cz (Kd.R_reads' HO788.out).2.2);(case side2 => exact (Kd.R_reads' HO788.out).2.1);rintro e w42 ⟨rfl,hb⟩;refine ⟨_,rfl,?_⟩;have n0_ := Aside0.mk (Kd.R_below (Kd.Rz HO788.out) hb);have n1_ := Aside0.mk (below_step bz hb);clear HO788;clear HB;have HO788 := n0_;have HB := n1_;clear n0_ n1_;(try clear hb);(try clear hb2);(try clear hk);(try clear hi))|((with_reducible refine gate_callee (f := 33) rfl ?_);refine goesL_ (some 34) rfl rfl Try.func33 (by kernel_rfl) rfl #[.slice A1 l1.length c1] rfl az ?_;(with_reducible refine (spec_DrawOrdMost.calls kj2 _ _ l1 t792 _ ?side1 ?side2 A22.out).mono ?_);(case side1 => exact Kd.Cz (Kd.C_below HR1.out HB.out));(case side2 => exact HC1.out);rintro e w43 ⟨v793,rfl,ho0,hb⟩;refine ⟨_,rfl,?_⟩;have n0_ := Aside0.mk (Kd.R_elder' (Kd.Rz HO788.out) (Kd.R_base ho0) hb);have n1_ := Aside0.mk (Kd.R_lower (Kd.R_new' ho0 (Kd.R_lt (Kd.Rz HO788.out))) (below_size bz));have n2_ := Aside0.mk (below_step bz hb);clear HO788;clear HB;have HO788 := n0_;have HO794 := n1_;have HB := n2_;clear n0_ n1_ n2_;(try clear hb);(try clear hb2);(try clear hk);(try clear hi);(try clear ho0);obtain ⟨Ao44,co44,eo44⟩ := Kd.R_slice HO794.out;subst eo44)|((with_reducible refine gate_callee (f := 36) rfl ?_);refine goesL_ (some 38) rfl rfl Try.func36 (by kernel_rfl) rfl #[.slice Ao40 t786.length co40,.slice Ao44 t792.length co44] rfl az ?_;(with_reducible refine (impl_OrdNatural.calls kj2 _ _ t786 _ _ t792 t795 false _ ?side1 ?side2 ?side3 ?side4 A23.out).mono ?_);(case side1 => exact Kd.Cz (Kd.R_reads' HO788.out).2.2);(case side2 => exact (Kd.R_reads' HO788.out).2.1);(case side3 => exact Kd.Cz (Kd.R_reads' HO794.out).2.2);(case side4 => exact (Kd.R_reads' HO794.out).2.1);rintro e w45 ⟨v797,rfl,ho0,hb⟩;refine ⟨_,rfl,?_⟩;have n0_ := Aside0.mk (Kd.R_elder' (Kd.Rz HO788.out) (Kd.R_base ho0) hb);have n1_ := Aside0.mk (Kd.R_elder' (Kd.Rz HO794.out) (Kd.R_base ho0) hb);have n2_ := Aside0.mk (Kd.R_lower (Kd.R_new' (Kd.R_new' ho0 (Kd.R_lt (Kd.Rz HO788.out))) (Kd.R_lt (Kd.Rz HO794.out))) (below_size bz));have n3_ := Aside0.mk (below_step bz hb);clear HO788;clear HO794;clear HB;have HO788 := n0_;have HO794 := n1_;have HO798 := n2_;have HB := n3_;clear n0_ n1_ n2_ n3_;(try clear hb);(try clear hb2);(try clear hk);(try clear hi);(try clear ho0)))
         go_ret
         exact ⟨by first|rfl|(simp [errW_none,errW_some] <;> rfl)|(simp [*,errW_none,errW_some] <;> rfl),bz⟩
       ·rw [if_neg c25] at H
        have c25b0 : decide ((t786.length : Int) < 2) = false := decide_eq_false c25
        have c25b1 : decide (t786.length < 2) = false := decide_eq_false (by omega)
        clear c25
        by_cases c46 : 1 < (t786.length : Int)
        ·rw [if_pos c46] at H
         have c46b0 : decide (1 < (t786.length : Int)) = true := decide_eq_true c46
         have c46b1 : decide (1 < t786.length) = true := decide_eq_true (by omega)
         clear c46
         by_cases c47 : (rd t786 1) ≤ t789
         ·rw [if_pos c47] at H
          have c47b0 : decide ((rd t786 1) ≤ t789) = true := decide_eq_true c47
          clear c47
          by_cases c48 : t796 = true
          ·subst c48
           have H1 : ((impl_OrdMost.f kj2 t795).bind fun t802 => ((impl_OrdMost.f kj2 t792).bind fun t803 => (some (decide (t802 ≤ (wrap64 (t789 + t803))))))) = some r := by rw [if_pos rfl] at H;exact H
           clear H
           have H := H1
           clear H1
           replace H := Option.bind_eq_some_iff.mp H
           obtain ⟨t802,A490,H⟩ := H
           replace H : ((impl_OrdMost.f kj2 t792).bind fun t803 => (some (decide (t802 ≤ (wrap64 (t789 + t803)))))) = some r := H
           have A49 := Aside0.mk A490
           clear A490
           replace H := Option.bind_eq_some_iff.mp H
           obtain ⟨t803,A500,H⟩ := H
           replace H : (some (decide (t802 ≤ (wrap64 (t789 + t803))))) = some r := H
           have A50 := Aside0.mk A500
           clear A500
           obtain rfl := Option.some.inj H
           go_wp2_with (first|((with_reducible refine gate_callee (f := 33) rfl ?_);refine goesL_ (some 19) rfl rfl Try.func33 (by kernel_rfl) rfl #[.slice A0 l0.length c0] rfl az ?_;(with_reducible refine (spec_DrawOrdMost.calls kj2 _ _ l0 t786 _ ?side1 ?side2 A6.out).mono ?_);(case side1 => exact Kd.Cz (Kd.C_below HR0.out HB.out));(case side2 => exact HC0.out);rintro e w51 ⟨v787,rfl,ho0,hb⟩;refine ⟨_,rfl,?_⟩;have n0_ := Aside0.mk (Kd.R_lower ho0 (below_size bz));have n1_ := Aside0.mk (below_step bz hb);clear HB;have HO788 := n0_;have HB := n1_;clear n0_ n1_;(try clear hb);(try clear hb2);(try clear hk);(try clear hi);(try clear ho0);obtain ⟨Ao52,co52,eo52⟩ := Kd.R_slice HO788.out;subst eo52)|((with_reducible refine gate_callee (f := 34) rfl ?_);refine goesL_ (some 21) rfl rfl Try.func34 (by kernel_rfl) rfl #[.slice Ao52 t786.length co52] rfl az ?_;(with_reducible refine (impl_OrdMost.calls kj2 _ _ t786 t789 _ ?side1 ?side2 A7.out).mono ?_);(case side1 => exact Kd.Cz (Kd.R_reads' HO788.out).2.2);(case side2 => exact (Kd.R_reads' HO788.out).2.1);rintro e w53 ⟨rfl,hb⟩;refine ⟨_,rfl,?_⟩;have n0_ := Aside0.mk (Kd.R_below (Kd.Rz HO788.out) hb);have n1_ := Aside0.mk (below_step bz hb);clear HO788;clear HB;have HO788 := n0_;have HB := n1_;clear n0_ n1_;(try clear hb);(try clear hb2);(try clear hk);(try clear hi))|((with_reducible refine gate_callee (f := 35) rfl ?_);refine goesL_ (some 24) rfl rfl Try.func35 (by kernel_rfl) rfl #[.slice Ao52 t786.length co52] rfl az ?_;(with_reducible refine (spec_OrdMost.calls kj2 _ _ t786 t790 _ ?side1 ?side2 A8.out).mono ?_);(case side1 => exact Kd.Cz (Kd.R_reads' HO788.out).2.2);(case side2 => exact (Kd.R_reads' HO788.out).2.1);rintro e w54 ⟨rfl,hb⟩;refine ⟨_,rfl,?_⟩;have n0_ := Aside0.mk (Kd.R_below (Kd.Rz HO788.out) hb);have n1_ := Aside0.mk (below_step bz hb);clear HO788;clear HB;have HO788 := n0_;have HB := n1_;clear n0_ n1_;(try clear hb);(try clear hb2);(try clear hk);(try clear hi))|((with_reducible refine gate_callee (f := 33) rfl ?_);refine goesL_ (some 34) rfl rfl Try.func33 (by kernel_rfl) rfl #[.slice A1 l1.length c1] rfl az ?_;(with_reducible refine (spec_DrawOrdMost.calls kj2 _ _ l1 t792 _ ?side1 ?side2 A22.out).mono ?_);(case side1 => exact Kd.Cz (Kd.C_below HR1.out HB.out));(case side2 => exact HC1.out);rintro e w55 ⟨v793,rfl,ho0,hb⟩;refine ⟨_,rfl,?_⟩;have n0_ := Aside0.mk (Kd.R_elder' (Kd.Rz HO788.out) (Kd.R_base ho0) hb);have n1_ := Aside0.mk (Kd.R_lower (Kd.R_new' ho0 (Kd.R_lt (Kd.Rz HO788.out))) (below_size bz));have n2_ := Aside0.mk (below_step bz hb);clear HO788;clear HB;have HO788 := n0_;have HO794 := n1_;have HB := n2_;clear n0_ n1_ n2_;(try clear hb);(try clear hb2);(try clear hk);(try clear hi);(try clear ho0);obtain ⟨Ao56,co56,eo56⟩ := Kd.R_slice HO794.out;subst eo56)|((with_reducible refine gate_callee (f := 36) rfl ?_);refine goesL_ (some 38) rfl rfl Try.func36 (by kernel_rfl) rfl #[.slice Ao52 t786.length co52,.slice Ao56 t792.length co56] rfl az ?_;(with_reducible refine (impl_OrdNatural.calls kj2 _ _ t786 _ _ t792 t795 true _ ?side1 ?side2 ?side3 ?side4 A23.out).mono ?_);(case side1 => exact Kd.Cz (Kd.R_reads' HO788.out).2.2);(case side2 => exact (Kd.R_reads' HO788.out).2.1);(case side3 => exact Kd.Cz (Kd.R_reads' HO794.out).2.2);(case side4 => exact (Kd.R_reads' HO794.out).2.1);rintro e w57 ⟨v797,rfl,ho0,hb⟩;refine ⟨_,rfl,?_⟩;have n0_ := Aside0.mk (Kd.R_elder' (Kd.Rz HO788.out) (Kd.R_base ho0) hb);have n1_ := Aside0.mk (Kd.R_elder' (Kd.Rz HO794.out) (Kd.R_base ho0) hb);have n2_ := Aside0.mk (Kd.R_lower (Kd.R_new' (Kd.R_new' ho0 (Kd.R_lt (Kd.Rz HO788.out))) (Kd.R_lt (Kd.Rz HO794.out))) (below_size bz));have n3_ := Aside0.mk (below_step bz hb);clear HO788;clear HO794;clear HB;have HO788 := n0_;have HO794 := n1_;have HO798 := n2_;have HB := n3_;clear n0_ n1_ n2_ n3_;(try clear hb);(try clear hb2);(try clear hk);(try clear hi);(try clear ho0);have p801 : 0 ≤ (1 : Int) := (by omega);have q801 : 1 < (t786.length : Int) := dz;obtain ⟨ad801,e801,hx801_0⟩ := Kd.at_int (Kd.R_reads' HO788.out).2.2 1 p801 q801;cases e801;(try simp only [show (1 : Int).toNat = 1 from rfl,Nat.reduceMul,Nat.reduceEqDiff,Go.Addr.add,↓reduceIte] at hx801_0);have qi801 : (1 < t786.length) = True := eq_true (by omega);(try rw [show ((1 : Int)).toNat = 1 from rfl] at hx801_0);replace p801 := eq_true p801;replace q801 := eq_true q801;obtain ⟨Ao58,co58,eo58⟩ := Kd.R_slice HO798.out;subst eo58)|(go_at_call 34;(with_reducible refine (impl_OrdMost.calls kj2 _ _ t795 t802 _ ?side1 ?side2 A49.out).mono ?_);(case side1 => exact Kd.Cz (Kd.R_reads' HO798.out).2.2);(case side2 => exact (Kd.R_reads' HO798.out).2.1);rintro e w59 ⟨rfl,hb⟩;have n0_ := Aside0.mk (Kd.R_below (Kd.Rz HO788.out) hb);have n1_ := Aside0.mk (Kd.R_below (Kd.Rz HO794.out) hb);have n2_ := Aside0.mk (Kd.R_below (Kd.Rz HO798.out) hb);have n3_ := Aside0.mk (below_step bz hb);clear HO788;clear HO794;clear HO798;clear HB;have HO788 := n0_;have HO794 := n1_;have HO798 := n2_;have HB := n3_;clear n0_ n1_ n2_ n3_;(try clear hb);(try clear hb2);(try clear hk);(try clear hi))|(go_at_call 34;(with_reducible refine (impl_OrdMost.calls kj2 _ _ t792 t803 _ ?side1 ?side2 A50.out).mono ?_);(case side1 => exact Kd.Cz (Kd.R_reads' HO794.out).2.2);(case side2 => exact (Kd.R_reads' HO794.out).2.1);rintro e w60 ⟨rfl,hb⟩;have n0_ := Aside0.mk (Kd.R_below (Kd.Rz HO788.out) hb);have n1_ := Aside0.mk (Kd.R_below (Kd.Rz HO794.out) hb);have n2_ := Aside0.mk (Kd.R_below (Kd.Rz HO798.out) hb);have n3_ := Aside0.mk (below_step bz hb);clear HO788;clear HO794;clear HO798;clear HB;have HO788 := n0_;have HO794 := n1_;have HO798 := n2_;have HB := n3_;clear n0_ n1_ n2_ n3_;(try clear hb);(try clear hb2);(try clear hk);(try clear hi)))
           go_ret
           exact ⟨by first|rfl|(simp [errW_none,errW_some] <;> rfl)|(simp [*,errW_none,errW_some] <;> rfl),bz⟩
          ·replace c48 := Bool.eq_false_iff.mpr c48
           subst c48
           have H1 : (some true) = some r := by rw [if_neg (show ¬ (false = true) by decide)] at H;exact H
           clear H
           have H := H1
           clear H1
           obtain rfl := Option.some.inj H
           go_wp2_with (first|((with_reducible refine gate_callee (f := 33) rfl ?_);refine goesL_ (some 19) rfl rfl Try.func33 (by kernel_rfl) rfl #[.slice A0 l0.length c0] rfl az ?_;(with_reducible refine (spec_DrawOrdMost.calls kj2 _ _ l0 t786 _ ?side1 ?side2 A6.out).mono ?_);(case side1 => exact Kd.Cz (Kd.C_below HR0.out HB.out));(case side2 => exact HC0.out);rintro e w61 ⟨v787,rfl,ho0,hb⟩;refine ⟨_,rfl,?_⟩;have n0_ := Aside0.mk (Kd.R_lower ho0 (below_size bz));have n1_ := Aside0.mk (below_step bz hb);clear HB;have HO788 := n0_;have HB := n1_;clear n0_ n1_;(try clear hb);(try clear hb2);(try clear hk);(try clear hi);(try clear ho0);obtain ⟨Ao62,co62,eo62⟩ := Kd.R_slice HO788.out;subst eo62)|((with_reducible refine gate_callee (f := 34) rfl ?_);refine goesL_ (some 21) rfl rfl Try.func34 (by kernel_rfl) rfl #[.slice Ao62 t786.length co62] rfl az ?_;(with_reducible refine (impl_OrdMost.calls kj2 _ _ t786 t789 _ ?side1 ?side2 A7.out).mono ?_);(case side1 => exact Kd.Cz (Kd.R_reads' HO788.out).2.2);(case side2 => exact (Kd.R_reads' HO788.out).2.1);rintro e w63 ⟨rfl,hb⟩;refine ⟨_,rfl,?_⟩;have n0_ := Aside0.mk (Kd.R_below (Kd.Rz HO788.out) hb);have n1_ := Aside0.mk (below_step bz hb);clear HO788;clear HB;have HO788 := n0_;have HB := n1_;clear n0_ n1_;(try clear hb);(try clear hb2);(try clear hk);(try clear hi))|((with_reducible refine gate_callee (f := 35) rfl ?_);refine goesL_ (some 24) rfl rfl Try.func35 (by kernel_rfl) rfl #[.slice Ao62 t786.length co62] rfl az ?_;(with_reducible refine (spec_OrdMost.calls kj2 _ _ t786 t790 _ ?side1 ?side2 A8.out).mono ?_);(case side1 => exact Kd.Cz (Kd.R_reads' HO788.out).2.2);(case side2 => exact (Kd.R_reads' HO788.out).2.1);rintro e w64 ⟨rfl,hb⟩;refine ⟨_,rfl,?_⟩;have n0_ := Aside0.mk (Kd.R_below (Kd.Rz HO788.out) hb);have n1_ := Aside0.mk (below_step bz hb);clear HO788;clear HB;have HO788 := n0_;have HB := n1_;clear n0_ n1_;(try clear hb);(try clear hb2);(try clear hk);(try clear hi))|((with_reducible refine gate_callee (f := 33) rfl ?_);refine goesL_ (some 34) rfl rfl Try.func33 (by kernel_rfl) rfl #[.slice A1 l1.length c1] rfl az ?_;(with_reducible refine (spec_DrawOrdMost.calls kj2 _ _ l1 t792 _ ?side1 ?side2 A22.out).mono ?_);(case side1 => exact Kd.Cz (Kd.C_below HR1.out HB.out));(case side2 => exact HC1.out);rintro e w65 ⟨v793,rfl,ho0,hb⟩;refine ⟨_,rfl,?_⟩;have n0_ := Aside0.mk (Kd.R_elder' (Kd.Rz HO788.out) (Kd.R_base ho0) hb);have n1_ := Aside0.mk (Kd.R_lower (Kd.R_new' ho0 (Kd.R_lt (Kd.Rz HO788.out))) (below_size bz));have n2_ := Aside0.mk (below_step bz hb);clear HO788;clear HB;have HO788 := n0_;have HO794 := n1_;have HB := n2_;clear n0_ n1_ n2_;(try clear hb);(try clear hb2);(try clear hk);(try clear hi);(try clear ho0);obtain ⟨Ao66,co66,eo66⟩ := Kd.R_slice HO794.out;subst eo66)|((with_reducible refine gate_callee (f := 36) rfl ?_);refine goesL_ (some 38) rfl rfl Try.func36 (by kernel_rfl) rfl #[.slice Ao62 t786.length co62,.slice Ao66 t792.length co66] rfl az ?_;(with_reducible refine (impl_OrdNatural.calls kj2 _ _ t786 _ _ t792 t795 false _ ?side1 ?side2 ?side3 ?side4 A23.out).mono ?_);(case side1 => exact Kd.Cz (Kd.R_reads' HO788.out).2.2);(case side2 => exact (Kd.R_reads' HO788.out).2.1);(case side3 => exact Kd.Cz (Kd.R_reads' HO794.out).2.2);(case side4 => exact (Kd.R_reads' HO794.out).2.1);rintro e w67 ⟨v797,rfl,ho0,hb⟩;refine ⟨_,rfl,?_⟩;have n0_ := Aside0.mk (Kd.R_elder' (Kd.Rz HO788.out) (Kd.R_base ho0) hb);have n1_ := Aside0.mk (Kd.R_elder' (Kd.Rz HO794.out) (Kd.R_base ho0) hb);have n2_ := Aside0.mk (Kd.R_lower (Kd.R_new' (Kd.R_new' ho0 (Kd.R_lt (Kd.Rz HO788.out))) (Kd.R_lt (Kd.Rz HO794.out))) (below_size bz));have n3_ := Aside0.mk (below_step bz hb);clear HO788;clear HO794;clear HB;have HO788 := n0_;have HO794 := n1_;have HO798 := n2_;have HB := n3_;clear n0_ n1_ n2_ n3_;(try clear hb);(try clear hb2);(try clear hk);(try clear hi);(try clear ho0);have p801 : 0 ≤ (1 : Int) := (by omega);have q801 : 1 < (t786.length : Int) := dz;obtain ⟨ad801,e801,hx801_0⟩ := Kd.at_int (Kd.R_reads' HO788.out).2.2 1 p801 q801;cases e801;(try simp only [show (1 : Int).toNat = 1 from rfl,Nat.reduceMul,Nat.reduceEqDiff,Go.Addr.add,↓reduceIte] at hx801_0);have qi801 : (1 < t786.length) = True := eq_true (by omega);(try rw [show ((1 : Int)).toNat = 1 from rfl] at hx801_0);replace p801 := eq_true p801;replace q801 := eq_true q801))
           go_ret
           exact ⟨by first|rfl|(simp [errW_none,errW_some] <;> rfl)|(simp [*,errW_none,errW_some] <;> rfl),bz⟩
         ·rw [if_neg c47] at H
          have c47b0 : decide ((rd t786 1) ≤ t789) = false := decide_eq_false c47
          clear c47
          obtain rfl := Option.some.inj H
          go_wp2_with (first|((with_reducible refine gate_callee (f := 33) rfl ?_);refine goesL_ (some 19) rfl rfl Try.func33 (by kernel_rfl) rfl #[.slice A0 l0.length c0] rfl az ?_;(with_reducible refine (spec_DrawOrdMost.calls kj2 _ _ l0 t786 _ ?side1 ?side2 A6.out).mono ?_);(case side1 => exact Kd.Cz (Kd.C_below HR0.out HB.out));(case side2 => exact HC0.out);rintro e w68 ⟨v787,rfl,ho0,hb⟩;refine ⟨_,rfl,?_⟩;have n0_ := Aside0.mk (Kd.R_lower ho0 (below_size bz));have n1_ := Aside0.mk (below_step bz hb);clear HB;have HO788 := n0_;have HB := n1_;clear n0_ n1_;(try clear hb);(try clear hb2);(try clear hk);(try clear hi);(try clear ho0);obtain ⟨Ao69,co69,eo69⟩ := Kd.R_slice HO788.out;subst eo69)|((with_reducible refine gate_callee (f := 34) rfl ?_);refine goesL_ (some 21) rfl rfl Try.func34 (by kernel_rfl) rfl #[.slice Ao69 t786.length co69] rfl az ?_;(with_reducible refine (impl_OrdMost.calls kj2 _ _ t786 t789 _ ?side1 ?side2 A7.out).mono ?_);(case side1 => exact Kd.Cz (Kd.R_reads' HO788.out).2.2);(case side2 => exact (Kd.R_reads' HO788.out).2.1);rintro e w70 ⟨rfl,hb⟩;refine ⟨_,rfl,?_⟩;have n0_ := Aside0.mk (Kd.R_below (Kd.Rz HO788.out) hb);have n1_ := Aside0.mk (below_step bz hb);clear HO788;clear HB;have HO788 := n0_;have HB := n1_;clear n0_ n1_;(try clear hb);(try clear hb2);(try clear hk);(try clear hi))|((with_reducible refine gate_callee (f := 35) rfl ?_);refine goesL_ (some 24) rfl rfl Try.func35 (by kernel_rfl) rfl #[.slice Ao69 t786.length co69] rfl az ?_;(with_reducible refine (spec_OrdMost.calls kj2 _ _ t786 t790 _ ?side1 ?side2 A8.out).mono ?_);(case side1 => exact Kd.Cz (Kd.R_reads' HO788.out).2.2);(case side2 => exact (Kd.R_reads' HO788.out).2.1);rintro e w71 ⟨rfl,hb⟩;refine ⟨_,rfl,?_⟩;have n0_ := Aside0.mk (Kd.R_below (Kd.Rz HO788.out) hb);have n1_ := Aside0.mk (below_step bz hb);clear HO788;clear HB;have HO788 := n0_;have HB := n1_;clear n0_ n1_;(try clear hb);(try clear hb2);(try clear hk);(try clear hi))|((with_reducible refine gate_callee (f := 33) rfl ?_);refine goesL_ (some 34) rfl rfl Try.func33 (by kernel_rfl) rfl #[.slice A1 l1.length c1] rfl az ?_;(with_reducible refine (spec_DrawOrdMost.calls kj2 _ _ l1 t792 _ ?side1 ?side2 A22.out).mono ?_);(case side1 => exact Kd.Cz (Kd.C_below HR1.out HB.out));(case side2 => exact HC1.out);rintro e w72 ⟨v793,rfl,ho0,hb⟩;refine ⟨_,rfl,?_⟩;have n0_ := Aside0.mk (Kd.R_elder' (Kd.Rz HO788.out) (Kd.R_base ho0) hb);have n1_ := Aside0.mk (Kd.R_lower (Kd.R_new' ho0 (Kd.R_lt (Kd.Rz HO788.out))) (below_size bz));have n2_ := Aside0.mk (below_step bz hb);clear HO788;clear HB;have HO788 := n0_;have HO794 := n1_;have HB := n2_;clear n0_ n1_ n2_;(try clear hb);(try clear hb2);(try clear hk);(try clear hi);(try clear ho0);obtain ⟨Ao73,co73,eo73⟩ := Kd.R_slice HO794.out;subst eo73)|((with_reducible refine gate_callee (f := 36) rfl ?_);refine goesL_ (some 38) rfl rfl Try.func36 (by kernel_rfl) rfl #[.slice Ao69 t786.length co69,.slice Ao73 t792.length co73] rfl az ?_;(with_reducible refine (impl_OrdNatural.calls kj2 _ _ t786 _ _ t792 t795 t796 _ ?side1 ?side2 ?side3 ?side4 A23.out).mono ?_);(case side1 => exact Kd.Cz (Kd.R_reads' HO788.out).2.2);(case side2 => exact (Kd.R_reads' HO788.out).2.1);(case side3 => exact Kd.Cz (Kd.R_reads' HO794.out).2.2);(case side4 => exact (Kd.R_reads' HO794.out).2.1);rintro e w74 ⟨v797,rfl,ho0,hb⟩;refine ⟨_,rfl,?_⟩;have n0_ := Aside0.mk (Kd.R_elder' (Kd.Rz HO788.out) (Kd.R_base ho0) hb);have n1_ := Aside0.mk (Kd.R_elder' (Kd.Rz HO794.out) (Kd.R_base ho0) hb);have n2_ := Aside0.mk (Kd.R_lower (Kd.R_new' (Kd.R_new' ho0 (Kd.R_lt (Kd.Rz HO788.out))) (Kd.R_lt (Kd.Rz HO794.out))) (below_size bz));have n3_ := Aside0.mk (below_step bz hb);clear HO788;clear HO794;clear HB;have HO788 := n0_;have HO794 := n1_;have HO798 := n2_;have HB := n3_;clear n0_ n1_ n2_ n3_;(try clear hb);(try clear hb2);(try clear hk);(try clear hi);(try clear ho0);have p801 : 0 ≤ (1 : Int) := (by omega);have q801 : 1 < (t786.length : Int) := dz;obtain ⟨ad801,e801,hx801_0⟩ := Kd.at_int (Kd.R_reads' HO788.out).2.2 1 p801 q801;cases e801;(try simp only [show (1 : Int).toNat = 1 from rfl,Nat.reduceMul,Nat.reduceEqDiff,Go.Addr.add,↓reduceIte] at hx801_0);have qi801 : (1 < t786.length) = True := eq_true (by omega);(try rw [show ((1 : Int)).toNat = 1 from rfl] at hx801_0);replace p801 := eq_true p801;replace q801 := eq_true q801))
          go_ret
          exact ⟨by first|rfl|(simp [errW_none,errW_some] <;> rfl)|(simp [*,errW_none,errW_some] <;> rfl),bz⟩
        ·rw [if_neg c46] at H
         exact absurd H (by simp)
      ·rw [if_neg c24] at H
       have c24b0 : ((t789 == 0) == ((t786.length : Int) == 1)) = false := by simpa using c24
       (try (have c24b1 : decide ((t789 == 0) = ((t786.length : Int) == 1)) = false := by simpa using c24))
       (try (have c24b2 : ((t789 == 0) == ((t786.length : Int) == 1)) = false := by simpa using c24))
       (try (have c24b3 : ¬ ((t789 == 0) = ((t786.length : Int) == 1)) := by simpa using c24))
       clear c24
       obtain rfl := Option.some.inj H
       go_wp2_with (first|((with_reducible refine gate_callee (f := 33) rfl ?_);refine goesL_ (some 19) rfl rfl Try.func33 (by kernel_rfl) rfl #[.slice A0 l0.length c0] rfl az ?_;(with_reducible refine (spec_DrawOrdMost.calls kj2 _ _ l0 t786 _ ?side1 ?side2 A6.out).mono ?_);(case side1 => exact Kd.Cz (Kd.C_below HR0.out HB.out));(case side2 => exact HC0.out);rintro e w75 ⟨v787,rfl,ho0,hb⟩;refine ⟨_,rfl,?_⟩;have n0_ := Aside0.mk (Kd.R_lower ho0 (below_size bz));have n1_ := Aside0.mk (below_step bz hb);clear HB;have HO788 := n0_;have HB := n1_;clear n0_ n1_;(try clear hb);(try clear hb2);(try clear hk);(try clear hi);(try clear ho0);obtain ⟨Ao76,co76,eo76⟩ := Kd.R_slice HO788.out;subst eo76)|((with_reducible refine gate_callee (f := 34) rfl ?_);refine goesL_ (some 21) rfl rfl Try.func34 (by kernel_rfl) rfl #[.slice Ao76 t786.length co76] rfl az ?_;(with_reducible refine (impl_OrdMost.calls kj2 _ _ t786 t789 _ ?side1 ?side2 A7.out).mono ?_);(case side1 => exact Kd.Cz (Kd.R_reads' HO788.out).2.2);(case side2 => exact (Kd.R_reads' HO788.out).2.1);rintro e w77 ⟨rfl,hb⟩;refine ⟨_,rfl,?_⟩;have n0_ := Aside0.mk (Kd.R_below (Kd.Rz HO788.out) hb);have n1_ := Aside0.mk (below_step bz hb);clear HO788;clear HB;have HO788 := n0_;have HB := n1_;clear n0_ n1_;(try clear hb);(try clear hb2);(try clear hk);(try clear hi))|((with_reducible refine gate_callee (f := 35) rfl ?_);refine goesL_ (some 24) rfl rfl Try.func35 (by kernel_rfl) rfl #[.slice Ao76 t786.length co76] rfl az ?_;(with_reducible refine (spec_OrdMost.calls kj2 _ _ t786 t790 _ ?side1 ?side2 A8.out).mono ?_);(case side1 => exact Kd.Cz (Kd.R_reads' HO788.out).2.2);(case side2 => exact (Kd.R_reads' HO788.out).2.1);rintro e w78 ⟨rfl,hb⟩;refine ⟨_,rfl,?_⟩;have n0_ := Aside0.mk (Kd.R_below (Kd.Rz HO788.out) hb);have n1_ := Aside0.mk (below_step bz hb);clear HO788;clear HB;have HO788 := n0_;have HB := n1_;clear n0_ n1_;(try clear hb);(try clear hb2);(try clear hk);(try clear hi))|((with_reducible refine gate_callee (f := 33) rfl ?_);refine goesL_ (some 34) rfl rfl Try.func33 (by kernel_rfl) rfl #[.slice A1 l1.length c1] rfl az ?_;(with_reducible refine (spec_DrawOrdMost.calls kj2 _ _ l1 t792 _ ?side1 ?side2 A22.out).mono ?_);(case side1 => exact Kd.Cz (Kd.C_below HR1.out HB.out));(case side2 => exact HC1.out);rintro e w79 ⟨v793,rfl,ho0,hb⟩;refine ⟨_,rfl,?_⟩;have n0_ := Aside0.mk (Kd.R_elder' (Kd.Rz HO788.out) (Kd.R_base ho0) hb);have n1_ := Aside0.mk (Kd.R_lower (Kd.R_new' ho0 (Kd.R_lt (Kd.Rz HO788.out))) (below_size bz));have n2_ := Aside0.mk (below_step bz hb);clear HO788;clear HB;have HO788 := n0_;have HO794 := n1_;have HB := n2_;clear n0_ n1_ n2_;(try clear hb);(try clear hb2);(try clear hk);(try clear hi);(try clear ho0);obtain ⟨Ao80,co80,eo80⟩ := Kd.R_slice HO794.out;subst eo80)|((with_reducible refine gate_callee (f := 36) rfl ?_);refine goesL_ (some 38) rfl rfl Try.func36 (by kernel_rfl) rfl #[.slice Ao76 t786.length co76,.slice Ao80 t792.length co80] rfl az ?_;(with_reducible refine (impl_OrdNatural.calls kj2 _ _ t786 _ _ t792 t795 t796 _ ?side1 ?side2 ?side3 ?side4 A23.out).mono ?_);(case side1 => exact Kd.Cz (Kd.R_reads' HO788.out).2.2);(case side2 => exact (Kd.R_reads' HO788.out).2.1);(case side3 => exact Kd.Cz (Kd.R_reads' HO794.out).2.2);(case side4 => exact (Kd.R_reads' HO794.out).2.1);rintro e w81 ⟨v797,rfl,ho0,hb⟩;refine ⟨_,rfl,?_⟩;have n0_ := Aside0.mk (Kd.R_elder' (Kd.Rz HO788.out) (Kd.R_base ho0) hb);have n1_ := Aside0.mk (Kd.R_elder' (Kd.Rz HO794.out) (Kd.R_base ho0) hb);have n2_ := Aside0.mk (Kd.R_lower (Kd.R_new' (Kd.R_new' ho0 (Kd.R_lt (Kd.Rz HO788.out))) (Kd.R_lt (Kd.Rz HO794.out))) (below_size bz));have n3_ := Aside0.mk (below_step bz hb);clear HO788;clear HO794;clear HB;have HO788 := n0_;have HO794 := n1_;have HO798 := n2_;have HB := n3_;clear n0_ n1_ n2_ n3_;(try clear hb);(try clear hb2);(try clear hk);(try clear hi);(try clear ho0)))
       go_ret
       exact ⟨by first|rfl|(simp [errW_none,errW_some] <;> rfl)|(simp [*,errW_none,errW_some] <;> rfl),bz⟩
    ·rw [if_neg c9] at H
     have c9b0 : (t789 == t790) = false := beq_eq_false_iff_ne.mpr c9
     have c9b1 : (t789 != t790) = true := bne_iff_ne.mpr c9
     obtain rfl := Option.some.inj H
     go_wp2_with (first|((with_reducible refine gate_callee (f := 33) rfl ?_);refine goesL_ (some 19) rfl rfl Try.func33 (by kernel_rfl) rfl #[.slice A0 l0.length c0] rfl az ?_;(with_reducible refine (spec_DrawOrdMost.calls kj2 _ _ l0 t786 _ ?side1 ?side2 A6.out).mono ?_);(case side1 => exact Kd.Cz (Kd.C_below HR0.out HB.out));(case side2 => exact HC0.out);rintro e w82 ⟨v787,rfl,ho0,hb⟩;refine ⟨_,rfl,?_⟩;have n0_ := Aside0.mk (Kd.R_lower ho0 (below_size bz));have n1_ := Aside0.mk (below_step bz hb);clear HB;have HO788 := n0_;have HB := n1_;clear n0_ n1_;(try clear hb);(try clear hb2);(try clear hk);(try clear hi);(try clear ho0);obtain ⟨Ao83,co83,eo83⟩ := Kd.R_slice HO788.out;subst eo83)|((with_reducible refine gate_callee (f := 34) rfl ?_);refine goesL_ (some 21) rfl rfl Try.func34 (by kernel_rfl) rfl #[.slice Ao83 t786.length co83] rfl az ?_;(with_reducible refine (impl_OrdMost.calls kj2 _ _ t786 t789 _ ?side1 ?side2 A7.out).mono ?_);(case side1 => exact Kd.Cz (Kd.R_reads' HO788.out).2.2);(case side2 => exact (Kd.R_reads' HO788.out).2.1);rintro e w84 ⟨rfl,hb⟩;refine ⟨_,rfl,?_⟩;have n0_ := Aside0.mk (Kd.R_below (Kd.Rz HO788.out) hb);have n1_ := Aside0.mk (below_step bz hb);clear HO788;clear HB;have HO788 := n0_;have HB := n1_;clear n0_ n1_;(try clear hb);(try clear hb2);(try clear hk);(try clear hi))|((with_reducible refine gate_callee (f := 35) rfl ?_);refine goesL_ (some 24) rfl rfl Try.func35 (by kernel_rfl) rfl #[.slice Ao83 t786.length co83] rfl az ?_;(with_reducible refine (spec_OrdMost.calls kj2 _ _ t786 t790 _ ?side1 ?side2 A8.out).mono ?_);(case side1 => exact Kd.Cz (Kd.R_reads' HO788.out).2.2);(case side2 => exact (Kd.R_reads' HO788.out).2.1);rintro e w85 ⟨rfl,hb⟩;refine ⟨_,rfl,?_⟩;have n0_ := Aside0.mk (Kd.R_below (Kd.Rz HO788.out) hb);have n1_ := Aside0.mk (below_step bz hb);clear HO788;clear HB;have HO788 := n0_;have HB := n1_;clear n0_ n1_;(try clear hb);(try clear hb2);(try clear hk);(try clear hi)))
     go_ret
     exact ⟨by first|rfl|(simp [errW_none,errW_some] <;> rfl)|(simp [*,errW_none,errW_some] <;> rfl),bz⟩

/-- THE ONE PURE STATEMENT of laws_FnOrdMost: yours. -/
def laws_FnOrdMost.Pure : Prop := ∀ (l0 : List Int) (l1 : List Int),l0.length ≤ maxLen → l0.length * 1 ≤ 140737488351232 → (∀ x ∈ l0,(Lit.int .u8 x).wf = true) → l1.length ≤ maxLen → l1.length * 1 ≤ 140737488351232 → (∀ x ∈ l1,(Lit.int .u8 x).wf = true) → ∃ k,laws_FnOrdMost.f k l0 l1 = some true
theorem laws_FnOrdMost.walk (P : laws_FnOrdMost.Pure) (a0 : Option Addr) (len0 cap0 : Nat) (z0 : List Int) (a1 : Option Addr) (len1 cap1 : Nat) (z1 : List Int) (w : World) (w0 : (a0 = none ∧ len0 = 0 ∧ cap0 = 0 ∧ z0 = []) ∨ ∃ x,a0 = some x ∧ len0 ≤ cap0 ∧ cap0 ≤ maxLen ∧ z0.length = cap0 ∧ (∀ i,i < z0.length → w.cell? (x.add i) = some (.int .u8 (z0.getD i 0))) ∧ ∀ n ∈ z0,(Lit.int .u8 n).wf = true) (y0 : len0 * 1 ≤ 140737488351232) (w1 : (a1 = none ∧ len1 = 0 ∧ cap1 = 0 ∧ z1 = []) ∨ ∃ x,a1 = some x ∧ len1 ≤ cap1 ∧ cap1 ≤ maxLen ∧ z1.length = cap1 ∧ (∀ i,i < z1.length → w.cell? (x.add i) = some (.int .u8 (z1.getD i 0))) ∧ ∀ n ∈ z1,(Lit.int .u8 n).wf = true) (y1 : len1 * 1 ≤ 140737488351232) :
  Calls Try.prog 8 #[.slice a0 len0 cap0,.slice a1 len1 cap1] w fun e w' => e = .returned (.bool true) ∧ Below w.heap.size w w' := by
 obtain ⟨l0,rfl,hr0,hm0,hw0,hc0⟩ := ReadsInt.ofRowC w0
 obtain ⟨l1,rfl,hr1,hm1,hw1,hc1⟩ := ReadsInt.ofRowC w1
 obtain ⟨k,h⟩ := P l0 l1 hm0 y0 hw0 hm1 y1 hw1
 refine (laws_FnOrdMost.calls k _ _ l0 _ _ l1 true w (Kd.C_of_reads (d := (0 : Int)) (h1 := fun _ => rfl) hr0) hc0 (Kd.C_of_reads (d := (0 : Int)) (h1 := fun _ => rfl) hr1) hc1 h).mono ?_
 rintro e w' ⟨rfl,hd⟩
 exact ⟨rfl,hd⟩

end Go.Proofs.Ytninfokihgbgpaa.P
