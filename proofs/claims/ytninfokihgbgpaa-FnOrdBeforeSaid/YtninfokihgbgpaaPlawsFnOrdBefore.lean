/- The walk of one Go function that the law reaches: it comes to what the Lean function of its name tells. -/
import Derived.Test.YtninfokihgbgpaaP0
import Derived.Test.YtninfokihgbgpaaPimplOrdBefore
import Derived.Test.YtninfokihgbgpaaPimplOrdCompare
import Derived.Test.YtninfokihgbgpaaPimplOrdNext
import Derived.Test.YtninfokihgbgpaaPimplOrdValid
import Derived.Test.YtninfokihgbgpaaPlawsalive
import Derived.Test.YtninfokihgbgpaaPlawssameInts
import Derived.Test.YtninfokihgbgpaaPspecDrawOrdBefore
import Derived.Test.YtninfokihgbgpaaPspecOrdBefore
namespace Go.Proofs.Ytninfokihgbgpaa.P
open Go.RowKit Go.Proofs.YtninfokihgbgpaaW.PrintWords Go.Proofs.YtninfokihgbgpaaW.PrintLast Go.Proofs.YtninfokihgbgpaaW.PrintMore
attribute [local go_sem] max2_int min2_int max_two min_two max_three min_three max_four min_four   
set_option linter.unusedVariables false
set_option linter.unusedSimpArgs false

/-! ### laws_FnOrdBefore: function 12 -/
def laws_FnOrdBefore.j0 : Nat → List Int → List Int → Bool → Bool → Option (Bool)
 | 0,_,_,_,_ => none
 | k + 1,x3,x4,x5,x33 => if x33 = true then (some false) else (if x5 = true then ((impl_OrdNext.f k x4).bind fun bt1049 => ((impl_OrdValid.f k x4).bind fun t1053 => (if t1053 = true then (if bt1049.2 = true then ((laws_sameInts.f k bt1049.1 x3).bind fun t1054 => (if t1054 = true then ((impl_OrdCompare.f k x4 x3).bind fun t1055 => (some (t1055 == (-1)))) else (some false))) else (some false)) else (some false)))) else (if (x4.length : Int) = 0 then ((laws_alive.f k).bind fun t1048 => (some t1048)) else (some false)))
def laws_FnOrdBefore.f (k : Nat) (l0 : List Int) : Option (Bool) := if (l0.length : Int) > 1048576 then (some true) else ((spec_DrawOrdBefore.f k l0).bind fun t1036 => ((impl_OrdBefore.f k t1036).bind fun bt1039 => ((spec_OrdBefore.f k t1036).bind fun bt1043 => ((laws_sameInts.f k bt1039.1 bt1043.1).bind fun t1047 => (if t1047 = true then (laws_FnOrdBefore.j0 k t1036 bt1039.1 bt1039.2 (bt1039.2 != bt1043.2)) else (laws_FnOrdBefore.j0 k t1036 bt1039.1 bt1039.2 true))))))
theorem laws_FnOrdBefore.mono_l : ∀ k,(∀ y0 y1 y2 y3,LeO (laws_FnOrdBefore.j0 k y0 y1 y2 y3) (laws_FnOrdBefore.j0 (k + 1) y0 y1 y2 y3))
 | 0 => fun _ _ _ _ r h => by simp [laws_FnOrdBefore.j0] at h
 | k + 1 => by
  have ih0 := laws_FnOrdBefore.mono_l k
  ·intro y0 y1 y2 y3
   unfold laws_FnOrdBefore.j0
   repeat' first|(with_reducible first|exact ih0 _ _ _ _|exact impl_OrdCompare.mono _ _ _|exact impl_OrdNext.mono _ _|exact impl_OrdValid.mono _ _|exact laws_alive.mono _|exact laws_sameInts.mono _ _ _|exact LeO.refl _|exact LeO.none _|refine LeO.ite ?_ ?_|refine LeO.bind ?_ (fun _ => ?_))|exact ih0 _ _ _ _|exact impl_OrdCompare.mono _ _ _|exact impl_OrdNext.mono _ _|exact impl_OrdValid.mono _ _|exact laws_alive.mono _|exact laws_sameInts.mono _ _ _|exact LeO.none _|refine LeO.ite ?_ ?_|refine LeO.bind ?_ (fun _ => ?_)
theorem laws_FnOrdBefore.mono : ∀ a0 k,LeO (laws_FnOrdBefore.f k a0) (laws_FnOrdBefore.f (k + 1) a0) := by
 intro a0 k
 have ih0 := laws_FnOrdBefore.mono_l k
 unfold laws_FnOrdBefore.f
 repeat' first|(with_reducible first|exact ih0 _ _ _ _|exact impl_OrdBefore.mono _ _|exact laws_sameInts.mono _ _ _|exact spec_DrawOrdBefore.mono _ _|exact spec_OrdBefore.mono _ _|exact LeO.refl _|exact LeO.none _|refine LeO.ite ?_ ?_|refine LeO.bind ?_ (fun _ => ?_))|exact ih0 _ _ _ _|exact impl_OrdBefore.mono _ _|exact laws_sameInts.mono _ _ _|exact spec_DrawOrdBefore.mono _ _|exact spec_OrdBefore.mono _ _|exact LeO.none _|refine LeO.ite ?_ ?_|refine LeO.bind ?_ (fun _ => ?_)
set_option maxHeartbeats 8000000 in
set_option maxRecDepth 100000 in
theorem laws_FnOrdBefore.calls (k : Nat) (A0 : Option Addr) (c0 : Nat) (l0 : List Int) (r : Bool) (w : World) (hr0 : Kd.C (Kd.int .u8) w A0 l0.length l0) (hc0 : l0.length ≤ c0) (h : laws_FnOrdBefore.f k l0 = some r) :
  Calls Try.prog 12 #[.slice A0 l0.length c0] w fun e w' => e = .returned (.bool r) ∧ Below w.heap.size w w' := by
 have HR0 := Aside0.mk hr0
 have HC0 := Aside0.mk hc0
 clear hr0 hc0
 have HB := Aside0.mk (Below.refl w.heap.size w)
 have H : (if (l0.length : Int) > 1048576 then (some true) else ((spec_DrawOrdBefore.f k l0).bind fun t1036 => ((impl_OrdBefore.f k t1036).bind fun bt1039 => ((spec_OrdBefore.f k t1036).bind fun bt1043 => ((laws_sameInts.f k bt1039.1 bt1043.1).bind fun t1047 => (if t1047 = true then (laws_FnOrdBefore.j0 k t1036 bt1039.1 bt1039.2 (bt1039.2 != bt1043.2)) else (laws_FnOrdBefore.j0 k t1036 bt1039.1 bt1039.2 true))))))) = some r := h
 clear h
 by_cases c2 : (l0.length : Int) > 1048576
 ·rw [if_pos c2] at H
  have c2b0 : decide (1048576 < (l0.length : Int)) = true := decide_eq_true c2
  have c2b1 : decide (1048576 < l0.length) = true := decide_eq_true (by omega)
  clear c2
  obtain rfl := Option.some.inj H
  go_enter Try.func12,Try.ntmps12
  go_wp2
  go_ret
  exact ⟨by first|rfl|(simp [errW_none,errW_some] <;> rfl)|(simp [*,errW_none,errW_some] <;> rfl),bz⟩
 ·rw [if_neg c2] at H
  have c2b0 : decide (1048576 < (l0.length : Int)) = false := decide_eq_false c2
  have c2b1 : decide (1048576 < l0.length) = false := decide_eq_false (by omega)
  clear c2
  replace H := Option.bind_eq_some_iff.mp H
  obtain ⟨t1036,A30,H⟩ := H
  replace H : ((impl_OrdBefore.f k t1036).bind fun bt1039 => ((spec_OrdBefore.f k t1036).bind fun bt1043 => ((laws_sameInts.f k bt1039.1 bt1043.1).bind fun t1047 => (if t1047 = true then (laws_FnOrdBefore.j0 k t1036 bt1039.1 bt1039.2 (bt1039.2 != bt1043.2)) else (laws_FnOrdBefore.j0 k t1036 bt1039.1 bt1039.2 true))))) = some r := H
  have A3 := Aside0.mk A30
  clear A30
  replace H := Option.bind_eq_some_iff.mp H
  obtain ⟨⟨t1039,t1040⟩,A40,H⟩ := H
  replace H : ((spec_OrdBefore.f k t1036).bind fun bt1043 => ((laws_sameInts.f k t1039 bt1043.1).bind fun t1047 => (if t1047 = true then (laws_FnOrdBefore.j0 k t1036 t1039 t1040 (t1040 != bt1043.2)) else (laws_FnOrdBefore.j0 k t1036 t1039 t1040 true)))) = some r := H
  have A4 := Aside0.mk A40
  clear A40
  replace H := Option.bind_eq_some_iff.mp H
  obtain ⟨⟨t1043,t1044⟩,A50,H⟩ := H
  replace H : ((laws_sameInts.f k t1039 t1043).bind fun t1047 => (if t1047 = true then (laws_FnOrdBefore.j0 k t1036 t1039 t1040 (t1040 != t1044)) else (laws_FnOrdBefore.j0 k t1036 t1039 t1040 true))) = some r := H
  have A5 := Aside0.mk A50
  clear A50
  have HC6 := Aside0.mk H
  clear H
  go_enter Try.func12,Try.ntmps12
  go_upto_region 6 with (first|((with_reducible refine gate_callee (f := 48) rfl ?_);refine goesL_ (some 14) rfl rfl Try.func48 (by kernel_rfl) rfl #[.slice A0 l0.length c0] rfl az ?_;(with_reducible refine (spec_DrawOrdBefore.calls k _ _ l0 t1036 _ ?side1 ?side2 A3.out).mono ?_);(case side1 => exact Kd.Cz HR0.out);(case side2 => exact HC0.out);rintro e w7 ⟨v1037,rfl,ho0,hb⟩;refine ⟨_,rfl,?_⟩;have n0_ := Aside0.mk (Kd.R_lower ho0 (below_size bz));have n1_ := Aside0.mk (below_step bz hb);clear HB;have HO1038 := n0_;have HB := n1_;clear n0_ n1_;(try clear hb);(try clear hb2);(try clear hk);(try clear hi);(try clear ho0);obtain ⟨Ao8,co8,eo8⟩ := Kd.R_slice HO1038.out;subst eo8)|((with_reducible refine gate_callee (f := 47) rfl ?_);refine goesL_ (some 17) rfl rfl Try.func47 (by kernel_rfl) rfl #[.slice Ao8 t1036.length co8] rfl az ?_;(with_reducible refine (impl_OrdBefore.calls k _ _ t1036 t1039 t1040 _ ?side1 ?side2 A4.out).mono ?_);(case side1 => exact Kd.Cz (Kd.R_reads' HO1038.out).2.2);(case side2 => exact (Kd.R_reads' HO1038.out).2.1);rintro e w9 ⟨v1041,rfl,ho0,hb⟩;refine ⟨_,rfl,?_⟩;have n0_ := Aside0.mk (Kd.R_elder' (Kd.Rz HO1038.out) (Kd.R_base ho0) hb);have n1_ := Aside0.mk (Kd.R_lower (Kd.R_new' ho0 (Kd.R_lt (Kd.Rz HO1038.out))) (below_size bz));have n2_ := Aside0.mk (below_step bz hb);clear HO1038;clear HB;have HO1038 := n0_;have HO1042 := n1_;have HB := n2_;clear n0_ n1_ n2_;(try clear hb);(try clear hb2);(try clear hk);(try clear hi);(try clear ho0))|((with_reducible refine gate_callee (f := 49) rfl ?_);refine goesL_ (some 22) rfl rfl Try.func49 (by kernel_rfl) rfl #[.slice Ao8 t1036.length co8] rfl az ?_;(with_reducible refine (spec_OrdBefore.calls k _ _ t1036 t1043 t1044 _ ?side1 ?side2 A5.out).mono ?_);(case side1 => exact Kd.Cz (Kd.R_reads' HO1038.out).2.2);(case side2 => exact (Kd.R_reads' HO1038.out).2.1);rintro e w10 ⟨v1045,rfl,ho0,hb⟩;refine ⟨_,rfl,?_⟩;have n0_ := Aside0.mk (Kd.R_elder' (Kd.Rz HO1038.out) (Kd.R_base ho0) hb);have n1_ := Aside0.mk (Kd.R_elder' (Kd.Rz HO1042.out) (Kd.R_base ho0) hb);have n2_ := Aside0.mk (Kd.R_lower (Kd.R_new' (Kd.R_new' ho0 (Kd.R_lt (Kd.Rz HO1038.out))) (Kd.R_lt (Kd.Rz HO1042.out))) (below_size bz));have n3_ := Aside0.mk (below_step bz hb);clear HO1038;clear HO1042;clear HB;have HO1038 := n0_;have HO1042 := n1_;have HO1046 := n2_;have HB := n3_;clear n0_ n1_ n2_ n3_;(try clear hb);(try clear hb2);(try clear hk);(try clear hi);(try clear ho0)))
  (try simp only [Act.put,List.setIfInBounds_toArray,List.set_cons_zero,List.set_cons_succ])
  go_cut [33] (fun v33 wc => ∃ (kq : Nat) (x33_5 : Bool),v33 = .bool x33_5 ∧ Aside0 (laws_FnOrdBefore.j0 kq t1036 t1039 t1040 x33_5 = some r) ∧ Aside0 (kq ≤ k) ∧ Aside0 (Kd.R (Kd.int .i64) 3 wc w.heap.size (fun k_ => some k_ ≠ (v1041 : Value).ownBlock) (.slice Ao8 t1036.length co8) t1036) ∧ Aside0 (Kd.R (Kd.int .i64) 3 wc w.heap.size (fun k_ => some k_ ≠ ((.slice Ao8 t1036.length co8) : Value).ownBlock) v1041 t1039) ∧ Aside0 (Below w.heap.size w wc))
  case first =>
   have H := HC6.out
   clear HC6
   replace H := Option.bind_eq_some_iff.mp H
   obtain ⟨t1047,A110,H⟩ := H
   replace H : (if t1047 = true then (laws_FnOrdBefore.j0 k t1036 t1039 t1040 (t1040 != t1044)) else (laws_FnOrdBefore.j0 k t1036 t1039 t1040 true)) = some r := H
   have A11 := Aside0.mk A110
   clear A110
   by_cases c12 : t1047 = true
   ·subst c12
    have H1 : (laws_FnOrdBefore.j0 k t1036 t1039 t1040 (t1040 != t1044)) = some r := by rw [if_pos rfl] at H;exact H
    clear H
    have H := H1
    clear H1
    have H' := Aside0.mk H
    clear H
    obtain ⟨Ao13,co13,eo13⟩ := Kd.R_slice HO1042.out
    subst eo13
    obtain ⟨Ao14,co14,eo14⟩ := Kd.R_slice HO1046.out
    subst eo14
    go_wp2_with (first|((with_reducible refine gate_callee (f := 17) rfl ?_);refine goesL_ (some 27) rfl rfl Try.func17 (by kernel_rfl) rfl #[.slice Ao13 t1039.length co13,.slice Ao14 t1043.length co14] rfl az ?_;(with_reducible refine (laws_sameInts.calls k _ _ t1039 _ _ t1043 true _ ?side1 ?side2 ?side3 ?side4 A11.out).mono ?_);(case side1 => exact Kd.Cz (Kd.R_reads' HO1042.out).2.2);(case side2 => exact (Kd.R_reads' HO1042.out).2.1);(case side3 => exact Kd.Cz (Kd.R_reads' HO1046.out).2.2);(case side4 => exact (Kd.R_reads' HO1046.out).2.1);rintro e w' ⟨rfl,⟨nd,rfl⟩⟩;refine ⟨_,rfl,?_⟩))
    go_meet
    case rel => exact ⟨_,((t1040 != t1044)),(by first|rfl|(simp;done)|(simp [*];done)),H',⟨by first|omega|exact Nat.le_refl _⟩,⟨by (with_reducible repeat (first|apply Kd.R_alloc|apply Kd.R_drewN|apply Kd.R_drew));exact Kd.R_mono HO1038.out (fun _ hk => hk.1.2)⟩,⟨by (with_reducible repeat (first|apply Kd.R_alloc|apply Kd.R_drewN|apply Kd.R_drew));exact Kd.R_mono HO1042.out (fun _ hk => hk.1.2)⟩,⟨bz⟩⟩
   ·replace c12 := Bool.eq_false_iff.mpr c12
    subst c12
    have H1 : (laws_FnOrdBefore.j0 k t1036 t1039 t1040 true) = some r := by rw [if_neg (show ¬ (false = true) by decide)] at H;exact H
    clear H
    have H := H1
    clear H1
    have H' := Aside0.mk H
    clear H
    obtain ⟨Ao15,co15,eo15⟩ := Kd.R_slice HO1042.out
    subst eo15
    obtain ⟨Ao16,co16,eo16⟩ := Kd.R_slice HO1046.out
    subst eo16
    go_wp2_with (first|((with_reducible refine gate_callee (f := 17) rfl ?_);refine goesL_ (some 27) rfl rfl Try.func17 (by kernel_rfl) rfl #[.slice Ao15 t1039.length co15,.slice Ao16 t1043.length co16] rfl az ?_;(with_reducible refine (laws_sameInts.calls k _ _ t1039 _ _ t1043 false _ ?side1 ?side2 ?side3 ?side4 A11.out).mono ?_);(case side1 => exact Kd.Cz (Kd.R_reads' HO1042.out).2.2);(case side2 => exact (Kd.R_reads' HO1042.out).2.1);(case side3 => exact Kd.Cz (Kd.R_reads' HO1046.out).2.2);(case side4 => exact (Kd.R_reads' HO1046.out).2.1);rintro e w' ⟨rfl,⟨nd,rfl⟩⟩;refine ⟨_,rfl,?_⟩))
    go_meet
    case rel => exact ⟨_,(true),(by first|rfl|(simp;done)|(simp [*];done)),H',⟨by first|omega|exact Nat.le_refl _⟩,⟨by (with_reducible repeat (first|apply Kd.R_alloc|apply Kd.R_drewN|apply Kd.R_drew));exact Kd.R_mono HO1038.out (fun _ hk => hk.1.2)⟩,⟨by (with_reducible repeat (first|apply Kd.R_alloc|apply Kd.R_drewN|apply Kd.R_drew));exact Kd.R_mono HO1042.out (fun _ hk => hk.1.2)⟩,⟨bz⟩⟩
  case rest =>
   clear HC6
   try clear c1
   try clear c2
   try clear c2b0
   try clear c2b1
   try clear p2
   try clear c4
   try clear c12
   obtain ⟨kq,x33_5,rfl,HA,HJ5,HO_3,HO_4,HB⟩ := hcut
   cases kq with
   | zero => exact absurd HA.out (by simp [laws_FnOrdBefore.j0])
   | succ kj5 =>
    have H := HA.out
    clear HA
    simp only [laws_FnOrdBefore.j0] at H
    by_cases c17 : x33_5 = true
    ·subst c17
     have H1 : (some false) = some r := by rw [if_pos rfl] at H;exact H
     clear H
     have H := H1
     clear H1
     obtain rfl := Option.some.inj H
     go_wp2
     go_ret
     exact ⟨by first|rfl|(simp [errW_none,errW_some] <;> rfl)|(simp [*,errW_none,errW_some] <;> rfl),bz⟩
    ·replace c17 := Bool.eq_false_iff.mpr c17
     subst c17
     have H1 : (if t1040 = true then ((impl_OrdNext.f kj5 t1039).bind fun bt1049 => ((impl_OrdValid.f kj5 t1039).bind fun t1053 => (if t1053 = true then (if bt1049.2 = true then ((laws_sameInts.f kj5 bt1049.1 t1036).bind fun t1054 => (if t1054 = true then ((impl_OrdCompare.f kj5 t1039 t1036).bind fun t1055 => (some (t1055 == (-1)))) else (some false))) else (some false)) else (some false)))) else (if (t1039.length : Int) = 0 then ((laws_alive.f kj5).bind fun t1048 => (some t1048)) else (some false))) = some r := by rw [if_neg (show ¬ (false = true) by decide)] at H;exact H
     clear H
     have H := H1
     clear H1
     by_cases c18 : t1040 = true
     ·subst c18
      have H1 : ((impl_OrdNext.f kj5 t1039).bind fun bt1049 => ((impl_OrdValid.f kj5 t1039).bind fun t1053 => (if t1053 = true then (if bt1049.2 = true then ((laws_sameInts.f kj5 bt1049.1 t1036).bind fun t1054 => (if t1054 = true then ((impl_OrdCompare.f kj5 t1039 t1036).bind fun t1055 => (some (t1055 == (-1)))) else (some false))) else (some false)) else (some false)))) = some r := by rw [if_pos rfl] at H;exact H
      clear H
      have H := H1
      clear H1
      replace H := Option.bind_eq_some_iff.mp H
      obtain ⟨⟨t1049,t1050⟩,A190,H⟩ := H
      replace H : ((impl_OrdValid.f kj5 t1039).bind fun t1053 => (if t1053 = true then (if t1050 = true then ((laws_sameInts.f kj5 t1049 t1036).bind fun t1054 => (if t1054 = true then ((impl_OrdCompare.f kj5 t1039 t1036).bind fun t1055 => (some (t1055 == (-1)))) else (some false))) else (some false)) else (some false))) = some r := H
      have A19 := Aside0.mk A190
      clear A190
      replace H := Option.bind_eq_some_iff.mp H
      obtain ⟨t1053,A200,H⟩ := H
      replace H : (if t1053 = true then (if t1050 = true then ((laws_sameInts.f kj5 t1049 t1036).bind fun t1054 => (if t1054 = true then ((impl_OrdCompare.f kj5 t1039 t1036).bind fun t1055 => (some (t1055 == (-1)))) else (some false))) else (some false)) else (some false)) = some r := H
      have A20 := Aside0.mk A200
      clear A200
      by_cases c21 : t1053 = true
      ·subst c21
       have H1 : (if t1050 = true then ((laws_sameInts.f kj5 t1049 t1036).bind fun t1054 => (if t1054 = true then ((impl_OrdCompare.f kj5 t1039 t1036).bind fun t1055 => (some (t1055 == (-1)))) else (some false))) else (some false)) = some r := by rw [if_pos rfl] at H;exact H
       clear H
       have H := H1
       clear H1
       by_cases c22 : t1050 = true
       ·subst c22
        have H1 : ((laws_sameInts.f kj5 t1049 t1036).bind fun t1054 => (if t1054 = true then ((impl_OrdCompare.f kj5 t1039 t1036).bind fun t1055 => (some (t1055 == (-1)))) else (some false))) = some r := by rw [if_pos rfl] at H;exact H
        clear H
        have H := H1
        clear H1
        replace H := Option.bind_eq_some_iff.mp H
        obtain ⟨t1054,A230,H⟩ := H
        replace H : (if t1054 = true then ((impl_OrdCompare.f kj5 t1039 t1036).bind fun t1055 => (some (t1055 == (-1)))) else (some false)) = some r := H
        have A23 := Aside0.mk A230
        clear A230
        by_cases c24 : t1054 = true
        ·subst c24
         have H1 : ((impl_OrdCompare.f kj5 t1039 t1036).bind fun t1055 => (some (t1055 == (-1)))) = some r := by rw [if_pos rfl] at H;exact H
         clear H
         have H := H1
         clear H1
         replace H := Option.bind_eq_some_iff.mp H
         obtain ⟨t1055,A250,H⟩ := H
         replace H : (some (t1055 == (-1))) = some r := H
         have A25 := Aside0.mk A250
         clear A250
         obtain rfl := Option.some.inj H
         obtain ⟨Ao26,co26,eo26⟩ := Kd.R_slice HO_4.out
         subst eo26
         go_wp2_with (first|((with_reducible refine gate_callee (f := 20) rfl ?_);refine goesL_ (some 44) rfl rfl Try.func20 (by kernel_rfl) rfl #[.slice Ao26 t1039.length co26] rfl az ?_;(with_reducible refine (impl_OrdNext.calls kj5 _ _ t1039 t1049 true _ ?side1 ?side2 A19.out).mono ?_);(case side1 => exact Kd.Cz (Kd.R_reads' HO_4.out).2.2);(case side2 => exact (Kd.R_reads' HO_4.out).2.1);rintro e w27 ⟨v1051,rfl,ho0,hb⟩;refine ⟨_,rfl,?_⟩;have n0_ := Aside0.mk (Kd.R_elder' (Kd.Rz HO_3.out) (Kd.R_base ho0) hb);have n1_ := Aside0.mk (Kd.R_elder' (Kd.Rz HO_4.out) (Kd.R_base ho0) hb);have n2_ := Aside0.mk (Kd.R_lower (Kd.R_new' (Kd.R_new' ho0 (Kd.R_lt (Kd.Rz HO_3.out))) (Kd.R_lt (Kd.Rz HO_4.out))) (below_size bz));have n3_ := Aside0.mk (below_step bz hb);clear HO_3;clear HO_4;clear HB;have HO_3 := n0_;have HO_4 := n1_;have HO1052 := n2_;have HB := n3_;clear n0_ n1_ n2_ n3_;(try clear hb);(try clear hb2);(try clear hk);(try clear hi);(try clear ho0))|((with_reducible refine gate_callee (f := 21) rfl ?_);refine goesL_ (some 48) rfl rfl Try.func21 (by kernel_rfl) rfl #[.slice Ao26 t1039.length co26] rfl az ?_;(with_reducible refine (impl_OrdValid.calls kj5 _ _ t1039 true _ ?side1 ?side2 A20.out).mono ?_);(case side1 => exact Kd.Cz (Kd.R_reads' HO_4.out).2.2);(case side2 => exact (Kd.R_reads' HO_4.out).2.1);rintro e w28 ⟨rfl,hb⟩;refine ⟨_,rfl,?_⟩;have n0_ := Aside0.mk (Kd.R_below (Kd.Rz HO_3.out) hb);have n1_ := Aside0.mk (Kd.R_below (Kd.Rz HO_4.out) hb);have n2_ := Aside0.mk (Kd.R_below (Kd.Rz HO1052.out) hb);have n3_ := Aside0.mk (below_step bz hb);clear HO_3;clear HO_4;clear HO1052;clear HB;have HO_3 := n0_;have HO_4 := n1_;have HO1052 := n2_;have HB := n3_;clear n0_ n1_ n2_ n3_;(try clear hb);(try clear hb2);(try clear hk);(try clear hi);obtain ⟨Ao29,co29,eo29⟩ := Kd.R_slice HO1052.out;subst eo29)|(go_at_call 17;(with_reducible refine (laws_sameInts.calls kj5 _ _ t1049 _ _ t1036 true _ ?side1 ?side2 ?side3 ?side4 A23.out).mono ?_);(case side1 => exact Kd.Cz (Kd.R_reads' HO1052.out).2.2);(case side2 => exact (Kd.R_reads' HO1052.out).2.1);(case side3 => exact Kd.Cz (Kd.R_reads' HO_3.out).2.2);(case side4 => exact (Kd.R_reads' HO_3.out).2.1);rintro e w' ⟨rfl,⟨nd,rfl⟩⟩)|(go_at_call 28;(with_reducible refine (impl_OrdCompare.calls kj5 _ _ t1039 _ _ t1036 t1055 _ ?side1 ?side2 ?side3 ?side4 A25.out).mono ?_);(case side1 => exact Kd.Cz (Kd.R_reads' HO_4.out).2.2);(case side2 => exact (Kd.R_reads' HO_4.out).2.1);(case side3 => exact Kd.Cz (Kd.R_reads' HO_3.out).2.2);(case side4 => exact (Kd.R_reads' HO_3.out).2.1);rintro e w30 ⟨rfl,hb⟩;have n0_ := Aside0.mk (Kd.R_below (Kd.Rz HO_3.out) hb);have n1_ := Aside0.mk (Kd.R_below (Kd.Rz HO_4.out) hb);have n2_ := Aside0.mk (Kd.R_below (Kd.Rz HO1052.out) hb);have n3_ := Aside0.mk (below_step bz hb);clear HO_3;clear HO_4;clear HO1052;clear HB;have HO_3 := n0_;have HO_4 := n1_;have HO1052 := n2_;have HB := n3_;clear n0_ n1_ n2_ n3_;(try clear hb);(try clear hb2);(try clear hk);(try clear hi)))
         go_ret
         exact ⟨by first|rfl|(simp [errW_none,errW_some] <;> rfl)|(simp [*,errW_none,errW_some] <;> rfl),bz⟩
        ·replace c24 := Bool.eq_false_iff.mpr c24
         subst c24
         have H1 : (some false) = some r := by rw [if_neg (show ¬ (false = true) by decide)] at H;exact H
         clear H
         have H := H1
         clear H1
         obtain rfl := Option.some.inj H
         obtain ⟨Ao31,co31,eo31⟩ := Kd.R_slice HO_4.out
         subst eo31
         go_wp2_with (first|((with_reducible refine gate_callee (f := 20) rfl ?_);refine goesL_ (some 44) rfl rfl Try.func20 (by kernel_rfl) rfl #[.slice Ao31 t1039.length co31] rfl az ?_;(with_reducible refine (impl_OrdNext.calls kj5 _ _ t1039 t1049 true _ ?side1 ?side2 A19.out).mono ?_);(case side1 => exact Kd.Cz (Kd.R_reads' HO_4.out).2.2);(case side2 => exact (Kd.R_reads' HO_4.out).2.1);rintro e w32 ⟨v1051,rfl,ho0,hb⟩;refine ⟨_,rfl,?_⟩;have n0_ := Aside0.mk (Kd.R_elder' (Kd.Rz HO_3.out) (Kd.R_base ho0) hb);have n1_ := Aside0.mk (Kd.R_elder' (Kd.Rz HO_4.out) (Kd.R_base ho0) hb);have n2_ := Aside0.mk (Kd.R_lower (Kd.R_new' (Kd.R_new' ho0 (Kd.R_lt (Kd.Rz HO_3.out))) (Kd.R_lt (Kd.Rz HO_4.out))) (below_size bz));have n3_ := Aside0.mk (below_step bz hb);clear HO_3;clear HO_4;clear HB;have HO_3 := n0_;have HO_4 := n1_;have HO1052 := n2_;have HB := n3_;clear n0_ n1_ n2_ n3_;(try clear hb);(try clear hb2);(try clear hk);(try clear hi);(try clear ho0))|((with_reducible refine gate_callee (f := 21) rfl ?_);refine goesL_ (some 48) rfl rfl Try.func21 (by kernel_rfl) rfl #[.slice Ao31 t1039.length co31] rfl az ?_;(with_reducible refine (impl_OrdValid.calls kj5 _ _ t1039 true _ ?side1 ?side2 A20.out).mono ?_);(case side1 => exact Kd.Cz (Kd.R_reads' HO_4.out).2.2);(case side2 => exact (Kd.R_reads' HO_4.out).2.1);rintro e w33 ⟨rfl,hb⟩;refine ⟨_,rfl,?_⟩;have n0_ := Aside0.mk (Kd.R_below (Kd.Rz HO_3.out) hb);have n1_ := Aside0.mk (Kd.R_below (Kd.Rz HO_4.out) hb);have n2_ := Aside0.mk (Kd.R_below (Kd.Rz HO1052.out) hb);have n3_ := Aside0.mk (below_step bz hb);clear HO_3;clear HO_4;clear HO1052;clear HB;have HO_3 := n0_;have HO_4 := n1_;have HO1052 := n2_;have HB := n3_;clear n0_ n1_ n2_ n3_;(try clear hb);(try clear hb2);(try clear hk);(try clear hi);obtain ⟨Ao34,co34,eo34⟩ := Kd.R_slice HO1052.out;subst eo34)|(go_at_call 17;(with_reducible refine (laws_sameInts.calls kj5 _ _ t1049 _ _ t1036 false _ ?side1 ?side2 ?side3 ?side4 A23.out).mono ?_);(case side1 => exact Kd.Cz (Kd.R_reads' HO1052.out).2.2);(case side2 => exact (Kd.R_reads' HO1052.out).2.1);(case side3 => exact Kd.Cz (Kd.R_reads' HO_3.out).2.2);(case side4 => exact (Kd.R_reads' HO_3.out).2.1);rintro e w' ⟨rfl,⟨nd,rfl⟩⟩))
         go_ret
         exact ⟨by first|rfl|(simp [errW_none,errW_some] <;> rfl)|(simp [*,errW_none,errW_some] <;> rfl),bz⟩
       ·replace c22 := Bool.eq_false_iff.mpr c22
        subst c22
        have H1 : (some false) = some r := by rw [if_neg (show ¬ (false = true) by decide)] at H;exact H
        clear H
        have H := H1
        clear H1
        obtain rfl := Option.some.inj H
        obtain ⟨Ao35,co35,eo35⟩ := Kd.R_slice HO_4.out
        subst eo35
        go_wp2_with (first|((with_reducible refine gate_callee (f := 20) rfl ?_);refine goesL_ (some 44) rfl rfl Try.func20 (by kernel_rfl) rfl #[.slice Ao35 t1039.length co35] rfl az ?_;(with_reducible refine (impl_OrdNext.calls kj5 _ _ t1039 t1049 false _ ?side1 ?side2 A19.out).mono ?_);(case side1 => exact Kd.Cz (Kd.R_reads' HO_4.out).2.2);(case side2 => exact (Kd.R_reads' HO_4.out).2.1);rintro e w36 ⟨v1051,rfl,ho0,hb⟩;refine ⟨_,rfl,?_⟩;have n0_ := Aside0.mk (Kd.R_elder' (Kd.Rz HO_3.out) (Kd.R_base ho0) hb);have n1_ := Aside0.mk (Kd.R_elder' (Kd.Rz HO_4.out) (Kd.R_base ho0) hb);have n2_ := Aside0.mk (Kd.R_lower (Kd.R_new' (Kd.R_new' ho0 (Kd.R_lt (Kd.Rz HO_3.out))) (Kd.R_lt (Kd.Rz HO_4.out))) (below_size bz));have n3_ := Aside0.mk (below_step bz hb);clear HO_3;clear HO_4;clear HB;have HO_3 := n0_;have HO_4 := n1_;have HO1052 := n2_;have HB := n3_;clear n0_ n1_ n2_ n3_;(try clear hb);(try clear hb2);(try clear hk);(try clear hi);(try clear ho0))|((with_reducible refine gate_callee (f := 21) rfl ?_);refine goesL_ (some 48) rfl rfl Try.func21 (by kernel_rfl) rfl #[.slice Ao35 t1039.length co35] rfl az ?_;(with_reducible refine (impl_OrdValid.calls kj5 _ _ t1039 true _ ?side1 ?side2 A20.out).mono ?_);(case side1 => exact Kd.Cz (Kd.R_reads' HO_4.out).2.2);(case side2 => exact (Kd.R_reads' HO_4.out).2.1);rintro e w37 ⟨rfl,hb⟩;refine ⟨_,rfl,?_⟩;have n0_ := Aside0.mk (Kd.R_below (Kd.Rz HO_3.out) hb);have n1_ := Aside0.mk (Kd.R_below (Kd.Rz HO_4.out) hb);have n2_ := Aside0.mk (Kd.R_below (Kd.Rz HO1052.out) hb);have n3_ := Aside0.mk (below_step bz hb);clear HO_3;clear HO_4;clear HO1052;clear HB;have HO_3 := n0_;have HO_4 := n1_;have HO1052 := n2_;have HB := n3_;clear n0_ n1_ n2_ n3_;(try clear hb);(try clear hb2);(try clear hk);(try clear hi)))
        go_ret
        exact ⟨by first|rfl|(simp [errW_none,errW_some] <;> rfl)|(simp [*,errW_none,errW_some] <;> rfl),bz⟩
      ·replace c21 := Bool.eq_false_iff.mpr c21
       subst c21
       have H1 : (some false) = some r := by rw [if_neg (show ¬ (false = true) by decide)] at H;exact H
       clear H
       have H := H1
       clear H1
       obtain rfl := Option.some.inj H
       obtain ⟨Ao38,co38,eo38⟩ := Kd.R_slice HO_4.out
       subst eo38
       go_wp2_with (first|((with_reducible refine gate_callee (f := 20) rfl ?_);refine goesL_ (some 44) rfl rfl Try.func20 (by kernel_rfl) rfl #[.slice Ao38 t1039.length co38] rfl az ?_;(with_reducible refine (impl_OrdNext.calls kj5 _ _ t1039 t1049 t1050 _ ?side1 ?side2 A19.out).mono ?_);(case side1 => exact Kd.Cz (Kd.R_reads' HO_4.out).2.2);(case side2 => exact (Kd.R_reads' HO_4.out).2.1);rintro e w39 ⟨v1051,rfl,ho0,hb⟩;refine ⟨_,rfl,?_⟩;have n0_ := Aside0.mk (Kd.R_elder' (Kd.Rz HO_3.out) (Kd.R_base ho0) hb);have n1_ := Aside0.mk (Kd.R_elder' (Kd.Rz HO_4.out) (Kd.R_base ho0) hb);have n2_ := Aside0.mk (Kd.R_lower (Kd.R_new' (Kd.R_new' ho0 (Kd.R_lt (Kd.Rz HO_3.out))) (Kd.R_lt (Kd.Rz HO_4.out))) (below_size bz));have n3_ := Aside0.mk (below_step bz hb);clear HO_3;clear HO_4;clear HB;have HO_3 := n0_;have HO_4 := n1_;have HO1052 := n2_;have HB := n3_;clear n0_ n1_ n2_ n3_;(try clear hb);(try clear hb2);(try clear hk);(try clear hi);(try clear ho0))|((with_reducible refine gate_callee (f := 21) rfl ?_);refine goesL_ (some 48) rfl rfl Try.func21 (by kernel_rfl) rfl #[.slice Ao38 t1039.length co38] rfl az ?_;(with_reducible refine (impl_OrdValid.calls kj5 _ _ t1039 false _ ?side1 ?side2 A20.out).mono ?_);(case side1 => exact Kd.Cz (Kd.R_reads' HO_4.out).2.2);(case side2 => exact (Kd.R_reads' HO_4.out).2.1);rintro e w40 ⟨rfl,hb⟩;refine ⟨_,rfl,?_⟩;have n0_ := Aside0.mk (Kd.R_below (Kd.Rz HO_3.out) hb);have n1_ := Aside0.mk (Kd.R_below (Kd.Rz HO_4.out) hb);have n2_ := Aside0.mk (Kd.R_below (Kd.Rz HO1052.out) hb);have n3_ := Aside0.mk (below_step bz hb);clear HO_3;clear HO_4;clear HO1052;clear HB;have HO_3 := n0_;have HO_4 := n1_;have HO1052 := n2_;have HB := n3_;clear n0_ n1_ n2_ n3_;(try clear hb);(try clear hb2);(try clear hk);(try clear hi)))
       go_ret
       exact ⟨by first|rfl|(simp [errW_none,errW_some] <;> rfl)|(simp [*,errW_none,errW_some] <;> rfl),bz⟩
     ·replace c18 := Bool.eq_false_iff.mpr c18
      subst c18
      have H1 : (if (t1039.length : Int) = 0 then ((laws_alive.f kj5).bind fun t1048 => (some t1048)) else (some false)) = some r := by rw [if_neg (show ¬ (false = true) by decide)] at H;exact H
      clear H
      have H := H1
      clear H1
      by_cases c41 : (t1039.length : Int) = 0
      ·rw [if_pos c41] at H
       have c41b0 : ((t1039.length : Int) == 0) = true := beq_iff_eq.mpr c41
       have c41b1 : ((t1039.length : Int) != 0) = false := bne_eq_false_iff_eq.mpr c41
       clear c41
       replace H := Option.bind_eq_some_iff.mp H
       obtain ⟨t1048,A420,H⟩ := H
       replace H : (some t1048) = some r := H
       have A42 := Aside0.mk A420
       clear A420
       obtain rfl := Option.some.inj H
       obtain ⟨Ao43,co43,eo43⟩ := Kd.R_slice HO_4.out
       subst eo43
       go_wp2_with (first|(go_at_call 19;(with_reducible refine (laws_alive.calls kj5  t1048 _ A42.out).mono ?_);rintro e w44 ⟨rfl,hb⟩;have n0_ := Aside0.mk (Kd.R_below (Kd.Rz HO_3.out) hb);have n1_ := Aside0.mk (Kd.R_below (Kd.Rz HO_4.out) hb);have n2_ := Aside0.mk (below_step bz hb);clear HO_3;clear HO_4;clear HB;have HO_3 := n0_;have HO_4 := n1_;have HB := n2_;clear n0_ n1_ n2_;(try clear hb);(try clear hb2);(try clear hk);(try clear hi)))
       go_ret
       exact ⟨by first|rfl|(simp [errW_none,errW_some] <;> rfl)|(simp [*,errW_none,errW_some] <;> rfl),bz⟩
      ·rw [if_neg c41] at H
       have c41b0 : ((t1039.length : Int) == 0) = false := beq_eq_false_iff_ne.mpr c41
       have c41b1 : ((t1039.length : Int) != 0) = true := bne_iff_ne.mpr c41
       have c41b2 : ¬ (t1039 = []) := fun h_ => c41 (by rw [h_];rfl)
       obtain rfl := Option.some.inj H
       obtain ⟨Ao45,co45,eo45⟩ := Kd.R_slice HO_4.out
       subst eo45
       go_wp2
       go_ret
       exact ⟨by first|rfl|(simp [errW_none,errW_some] <;> rfl)|(simp [*,errW_none,errW_some] <;> rfl),bz⟩

/-- THE ONE PURE STATEMENT of laws_FnOrdBefore: yours. -/
def laws_FnOrdBefore.Pure : Prop := ∀ (l0 : List Int),l0.length ≤ maxLen → l0.length * 1 ≤ 140737488351232 → (∀ x ∈ l0,(Lit.int .u8 x).wf = true) → ∃ k,laws_FnOrdBefore.f k l0 = some true
theorem laws_FnOrdBefore.walk (P : laws_FnOrdBefore.Pure) (a0 : Option Addr) (len0 cap0 : Nat) (z0 : List Int) (w : World) (w0 : (a0 = none ∧ len0 = 0 ∧ cap0 = 0 ∧ z0 = []) ∨ ∃ x,a0 = some x ∧ len0 ≤ cap0 ∧ cap0 ≤ maxLen ∧ z0.length = cap0 ∧ (∀ i,i < z0.length → w.cell? (x.add i) = some (.int .u8 (z0.getD i 0))) ∧ ∀ n ∈ z0,(Lit.int .u8 n).wf = true) (y0 : len0 * 1 ≤ 140737488351232) :
  Calls Try.prog 12 #[.slice a0 len0 cap0] w fun e w' => e = .returned (.bool true) ∧ Below w.heap.size w w' := by
 obtain ⟨l0,rfl,hr0,hm0,hw0,hc0⟩ := ReadsInt.ofRowC w0
 obtain ⟨k,h⟩ := P l0 hm0 y0 hw0
 refine (laws_FnOrdBefore.calls k _ _ l0 true w (Kd.C_of_reads (d := (0 : Int)) (h1 := fun _ => rfl) hr0) hc0 h).mono ?_
 rintro e w' ⟨rfl,hd⟩
 exact ⟨rfl,hd⟩

end Go.Proofs.Ytninfokihgbgpaa.P
