/- The walk of one Go function that the law reaches: it comes to what the Lean function of its name tells. -/
import Derived.Test.YtninfokihgbgpaaP0
import Derived.Test.YtninfokihgbgpaaPimplOrdBefore
import Derived.Test.YtninfokihgbgpaaPimplOrdCompare
import Derived.Test.YtninfokihgbgpaaPimplOrdNext
import Derived.Test.YtninfokihgbgpaaPimplOrdValid
import Derived.Test.YtninfokihgbgpaaPlawsalive
import Derived.Test.YtninfokihgbgpaaPlawssameInts
import Derived.Test.YtninfokihgbgpaaPspecDrawOrdNext
import Derived.Test.YtninfokihgbgpaaPspecOrdNext
namespace Go.Proofs.Ytninfokihgbgpaa.P
open Go.RowKit Go.Proofs.YtninfokihgbgpaaW.PrintWords Go.Proofs.YtninfokihgbgpaaW.PrintLast Go.Proofs.YtninfokihgbgpaaW.PrintMore
attribute [local go_sem] max2_int min2_int max_two min_two max_three min_three max_four min_four   
set_option linter.unusedVariables false
set_option linter.unusedSimpArgs false

/-! ### laws_FnOrdNext: function 13 -/
mutual
def laws_FnOrdNext.j0 : Nat → List Int → List Int → Bool → Option (Bool)
 | 0,_,_,_ => none
 | k + 1,x0,x1,x20 => if x20 = true then (some true) else ((spec_DrawOrdNext.f k x0).bind fun t1063 => ((impl_OrdNext.f k t1063).bind fun bt1066 => ((spec_OrdNext.f k t1063).bind fun bt1070 => ((laws_sameInts.f k bt1066.1 bt1070.1).bind fun t1074 => (if t1074 = true then (laws_FnOrdNext.j1 k x1 t1063 bt1066.1 bt1066.2 (bt1066.2 != bt1070.2)) else (laws_FnOrdNext.j1 k x1 t1063 bt1066.1 bt1066.2 true))))))
def laws_FnOrdNext.j1 : Nat → List Int → List Int → List Int → Bool → Bool → Option (Bool)
 | 0,_,_,_,_,_ => none
 | k + 1,x1,x5,x6,x7,x41 => if x41 = true then (some false) else (if x7 = true then ((spec_DrawOrdNext.f k x1).bind fun t1076 => ((impl_OrdBefore.f k x6).bind fun bt1079 => ((impl_OrdValid.f k x6).bind fun t1083 => (if t1083 = true then ((impl_OrdCompare.f k x5 x6).bind fun t1084 => (if t1084 = (-1) then ((impl_OrdCompare.f k x5 t1076).bind fun t1085 => (if t1085 = (-1) then ((impl_OrdCompare.f k t1076 x6).bind fun t1086 => (if t1086 = (-1) then (some false) else (if bt1079.2 = true then ((laws_sameInts.f k bt1079.1 x5).bind fun t1087 => (some t1087)) else (some false)))) else (if bt1079.2 = true then ((laws_sameInts.f k bt1079.1 x5).bind fun t1088 => (some t1088)) else (some false)))) else (some false))) else (some false))))) else (if (x6.length : Int) = 0 then ((laws_alive.f k).bind fun t1075 => (some t1075)) else (some false)))
end
def laws_FnOrdNext.f (k : Nat) (l0 : List Int) (l1 : List Int) : Option (Bool) := if (l0.length : Int) > 1048576 then (laws_FnOrdNext.j0 k l0 l1 true) else (laws_FnOrdNext.j0 k l0 l1 (decide ((l1.length : Int) > 1048576)))
theorem laws_FnOrdNext.mono_l : ∀ k,(∀ y0 y1 y2,LeO (laws_FnOrdNext.j0 k y0 y1 y2) (laws_FnOrdNext.j0 (k + 1) y0 y1 y2)) ∧ (∀ y0 y1 y2 y3 y4,LeO (laws_FnOrdNext.j1 k y0 y1 y2 y3 y4) (laws_FnOrdNext.j1 (k + 1) y0 y1 y2 y3 y4))
 | 0 => ⟨fun _ _ _ r h => by simp [laws_FnOrdNext.j0] at h,fun _ _ _ _ _ r h => by simp [laws_FnOrdNext.j1] at h⟩
 | k + 1 => by
  obtain ⟨ih0,ih1⟩ := laws_FnOrdNext.mono_l k
  refine ⟨?_,?_⟩
  ·intro y0 y1 y2
   unfold laws_FnOrdNext.j0
   repeat' first|(with_reducible first|exact ih0 _ _ _|exact ih1 _ _ _ _ _|exact impl_OrdNext.mono _ _|exact laws_sameInts.mono _ _ _|exact spec_DrawOrdNext.mono _ _|exact spec_OrdNext.mono _ _|exact LeO.refl _|exact LeO.none _|refine LeO.ite ?_ ?_|refine LeO.bind ?_ (fun _ => ?_))|exact ih0 _ _ _|exact ih1 _ _ _ _ _|exact impl_OrdNext.mono _ _|exact laws_sameInts.mono _ _ _|exact spec_DrawOrdNext.mono _ _|exact spec_OrdNext.mono _ _|exact LeO.none _|refine LeO.ite ?_ ?_|refine LeO.bind ?_ (fun _ => ?_)
  ·intro y0 y1 y2 y3 y4
   unfold laws_FnOrdNext.j1
   repeat' first|(with_reducible first|exact ih1 _ _ _ _ _|exact impl_OrdBefore.mono _ _|exact impl_OrdCompare.mono _ _ _|exact impl_OrdValid.mono _ _|exact laws_alive.mono _|exact laws_sameInts.mono _ _ _|exact spec_DrawOrdNext.mono _ _|exact LeO.refl _|exact LeO.none _|refine LeO.ite ?_ ?_|refine LeO.bind ?_ (fun _ => ?_))|exact ih1 _ _ _ _ _|exact impl_OrdBefore.mono _ _|exact impl_OrdCompare.mono _ _ _|exact impl_OrdValid.mono _ _|exact laws_alive.mono _|exact laws_sameInts.mono _ _ _|exact spec_DrawOrdNext.mono _ _|exact LeO.none _|refine LeO.ite ?_ ?_|refine LeO.bind ?_ (fun _ => ?_)
theorem laws_FnOrdNext.mono : ∀ a0 a1 k,LeO (laws_FnOrdNext.f k a0 a1) (laws_FnOrdNext.f (k + 1) a0 a1) := by
 intro a0 a1 k
 obtain ⟨ih0,ih1⟩ := laws_FnOrdNext.mono_l k
 unfold laws_FnOrdNext.f
 repeat' first|(with_reducible first|exact ih0 _ _ _|exact ih1 _ _ _ _ _|exact LeO.refl _|exact LeO.none _|refine LeO.ite ?_ ?_|refine LeO.bind ?_ (fun _ => ?_))|exact ih0 _ _ _|exact ih1 _ _ _ _ _|exact LeO.none _|refine LeO.ite ?_ ?_|refine LeO.bind ?_ (fun _ => ?_)
set_option maxHeartbeats 8000000 in
set_option maxRecDepth 100000 in
theorem laws_FnOrdNext.calls (k : Nat) (A0 : Option Addr) (c0 : Nat) (l0 : List Int) (A1 : Option Addr) (c1 : Nat) (l1 : List Int) (r : Bool) (w : World) (hr0 : Kd.C (Kd.int .u8) w A0 l0.length l0) (hc0 : l0.length ≤ c0) (hr1 : Kd.C (Kd.int .u8) w A1 l1.length l1) (hc1 : l1.length ≤ c1) (h : laws_FnOrdNext.f k l0 l1 = some r) :
  Calls Try.prog 13 #[.slice A0 l0.length c0,.slice A1 l1.length c1] w fun e w' => e = .returned (.bool r) ∧ Below w.heap.size w w' := by
 have HR0 := Aside0.mk hr0
 have HC0 := Aside0.mk hc0
 clear hr0 hc0
 have HR1 := Aside0.mk hr1
 have HC1 := Aside0.mk hc1
 clear hr1 hc1
 have HB := Aside0.mk (Below.refl w.heap.size w)
 have H : (if (l0.length : Int) > 1048576 then (laws_FnOrdNext.j0 k l0 l1 true) else (laws_FnOrdNext.j0 k l0 l1 (decide ((l1.length : Int) > 1048576)))) = some r := h
 clear h
 have HC3 := Aside0.mk H
 clear H
 go_enter Try.func13,Try.ntmps13
 go_upto_region 1 with (fail)
 go_cut [20] (fun v20 wc => ∃ (kq : Nat) (x20_2 : Bool),v20 = .bool x20_2 ∧ Aside0 (laws_FnOrdNext.j0 kq l0 l1 x20_2 = some r) ∧ Aside0 (kq ≤ k) ∧ Aside0 (Below w.heap.size w wc))
 case first =>
  have H := HC3.out
  clear HC3
  by_cases c4 : (l0.length : Int) > 1048576
  ·rw [if_pos c4] at H
   have c4b0 : decide (1048576 < (l0.length : Int)) = true := decide_eq_true c4
   have c4b1 : decide (1048576 < l0.length) = true := decide_eq_true (by omega)
   clear c4
   (first|rw [c4b0]|(simp only [i64_w,i32_w];rw [c4b0])|skip)
   have H' := Aside0.mk H
   clear H
   go_wp2
   go_meet
   case rel => exact ⟨_,(true),(by first|rfl|(simp;done)|(simp [*];done)),H',⟨by first|omega|exact Nat.le_refl _⟩,⟨bz⟩⟩
  ·rw [if_neg c4] at H
   have c4b0 : decide (1048576 < (l0.length : Int)) = false := decide_eq_false c4
   have c4b1 : decide (1048576 < l0.length) = false := decide_eq_false (by omega)
   clear c4
   (first|rw [c4b0]|(simp only [i64_w,i32_w];rw [c4b0])|skip)
   have H' := Aside0.mk H
   clear H
   go_wp2
   go_meet
   case rel => exact ⟨_,(decide ((l1.length : Int) > 1048576)),(by first|rfl|(simp;done)|(simp [*];done)),H',⟨by first|omega|exact Nat.le_refl _⟩,⟨bz⟩⟩
 case rest =>
  clear HC3
  try clear c1
  try clear p2
  try clear c4
  try clear c4b0
  try clear c4b1
  obtain ⟨kq,x20_2,rfl,HA,HJ2,HB⟩ := hcut
  cases kq with
  | zero => exact absurd HA.out (by simp [laws_FnOrdNext.j0])
  | succ kj2 =>
   have H := HA.out
   clear HA
   simp only [laws_FnOrdNext.j0] at H
   by_cases c5 : x20_2 = true
   ·subst c5
    have H1 : (some true) = some r := by rw [if_pos rfl] at H;exact H
    clear H
    have H := H1
    clear H1
    obtain rfl := Option.some.inj H
    go_wp2
    go_ret
    exact ⟨by first|rfl|(simp [errW_none,errW_some] <;> rfl)|(simp [*,errW_none,errW_some] <;> rfl),bz⟩
   ·replace c5 := Bool.eq_false_iff.mpr c5
    subst c5
    have H1 : ((spec_DrawOrdNext.f kj2 l0).bind fun t1063 => ((impl_OrdNext.f kj2 t1063).bind fun bt1066 => ((spec_OrdNext.f kj2 t1063).bind fun bt1070 => ((laws_sameInts.f kj2 bt1066.1 bt1070.1).bind fun t1074 => (if t1074 = true then (laws_FnOrdNext.j1 kj2 l1 t1063 bt1066.1 bt1066.2 (bt1066.2 != bt1070.2)) else (laws_FnOrdNext.j1 kj2 l1 t1063 bt1066.1 bt1066.2 true)))))) = some r := by rw [if_neg (show ¬ (false = true) by decide)] at H;exact H
    clear H
    have H := H1
    clear H1
    replace H := Option.bind_eq_some_iff.mp H
    obtain ⟨t1063,A60,H⟩ := H
    replace H : ((impl_OrdNext.f kj2 t1063).bind fun bt1066 => ((spec_OrdNext.f kj2 t1063).bind fun bt1070 => ((laws_sameInts.f kj2 bt1066.1 bt1070.1).bind fun t1074 => (if t1074 = true then (laws_FnOrdNext.j1 kj2 l1 t1063 bt1066.1 bt1066.2 (bt1066.2 != bt1070.2)) else (laws_FnOrdNext.j1 kj2 l1 t1063 bt1066.1 bt1066.2 true))))) = some r := H
    have A6 := Aside0.mk A60
    clear A60
    replace H := Option.bind_eq_some_iff.mp H
    obtain ⟨⟨t1066,t1067⟩,A70,H⟩ := H
    replace H : ((spec_OrdNext.f kj2 t1063).bind fun bt1070 => ((laws_sameInts.f kj2 t1066 bt1070.1).bind fun t1074 => (if t1074 = true then (laws_FnOrdNext.j1 kj2 l1 t1063 t1066 t1067 (t1067 != bt1070.2)) else (laws_FnOrdNext.j1 kj2 l1 t1063 t1066 t1067 true)))) = some r := H
    have A7 := Aside0.mk A70
    clear A70
    replace H := Option.bind_eq_some_iff.mp H
    obtain ⟨⟨t1070,t1071⟩,A80,H⟩ := H
    replace H : ((laws_sameInts.f kj2 t1066 t1070).bind fun t1074 => (if t1074 = true then (laws_FnOrdNext.j1 kj2 l1 t1063 t1066 t1067 (t1067 != t1071)) else (laws_FnOrdNext.j1 kj2 l1 t1063 t1066 t1067 true))) = some r := H
    have A8 := Aside0.mk A80
    clear A80
    have HC9 := Aside0.mk H
    clear H
    go_upto_region 6 with (first|((with_reducible refine gate_callee (f := 50) rfl ?_);refine goesL_ (some 22) rfl rfl Try.func50 (by kernel_rfl) rfl #[.slice A0 l0.length c0] rfl az ?_;(with_reducible refine (spec_DrawOrdNext.calls kj2 _ _ l0 t1063 _ ?side1 ?side2 A6.out).mono ?_);(case side1 => exact Kd.Cz (Kd.C_below HR0.out HB.out));(case side2 => exact HC0.out);rintro e w10 ⟨v1064,rfl,ho0,hb⟩;refine ⟨_,rfl,?_⟩;have n0_ := Aside0.mk (Kd.R_lower ho0 (below_size bz));have n1_ := Aside0.mk (below_step bz hb);clear HB;have HO1065 := n0_;have HB := n1_;clear n0_ n1_;(try clear hb);(try clear hb2);(try clear hk);(try clear hi);(try clear ho0);obtain ⟨Ao11,co11,eo11⟩ := Kd.R_slice HO1065.out;subst eo11)|((with_reducible refine gate_callee (f := 20) rfl ?_);refine goesL_ (some 25) rfl rfl Try.func20 (by kernel_rfl) rfl #[.slice Ao11 t1063.length co11] rfl az ?_;(with_reducible refine (impl_OrdNext.calls kj2 _ _ t1063 t1066 t1067 _ ?side1 ?side2 A7.out).mono ?_);(case side1 => exact Kd.Cz (Kd.R_reads' HO1065.out).2.2);(case side2 => exact (Kd.R_reads' HO1065.out).2.1);rintro e w12 ⟨v1068,rfl,ho0,hb⟩;refine ⟨_,rfl,?_⟩;have n0_ := Aside0.mk (Kd.R_elder' (Kd.Rz HO1065.out) (Kd.R_base ho0) hb);have n1_ := Aside0.mk (Kd.R_lower (Kd.R_new' ho0 (Kd.R_lt (Kd.Rz HO1065.out))) (below_size bz));have n2_ := Aside0.mk (below_step bz hb);clear HO1065;clear HB;have HO1065 := n0_;have HO1069 := n1_;have HB := n2_;clear n0_ n1_ n2_;(try clear hb);(try clear hb2);(try clear hk);(try clear hi);(try clear ho0))|((with_reducible refine gate_callee (f := 51) rfl ?_);refine goesL_ (some 30) rfl rfl Try.func51 (by kernel_rfl) rfl #[.slice Ao11 t1063.length co11] rfl az ?_;(with_reducible refine (spec_OrdNext.calls kj2 _ _ t1063 t1070 t1071 _ ?side1 ?side2 A8.out).mono ?_);(case side1 => exact Kd.Cz (Kd.R_reads' HO1065.out).2.2);(case side2 => exact (Kd.R_reads' HO1065.out).2.1);rintro e w13 ⟨v1072,rfl,ho0,hb⟩;refine ⟨_,rfl,?_⟩;have n0_ := Aside0.mk (Kd.R_elder' (Kd.Rz HO1065.out) (Kd.R_base ho0) hb);have n1_ := Aside0.mk (Kd.R_elder' (Kd.Rz HO1069.out) (Kd.R_base ho0) hb);have n2_ := Aside0.mk (Kd.R_lower (Kd.R_new' (Kd.R_new' ho0 (Kd.R_lt (Kd.Rz HO1065.out))) (Kd.R_lt (Kd.Rz HO1069.out))) (below_size bz));have n3_ := Aside0.mk (below_step bz hb);clear HO1065;clear HO1069;clear HB;have HO1065 := n0_;have HO1069 := n1_;have HO1073 := n2_;have HB := n3_;clear n0_ n1_ n2_ n3_;(try clear hb);(try clear hb2);(try clear hk);(try clear hi);(try clear ho0)))
    (try simp only [Act.put,List.setIfInBounds_toArray,List.set_cons_zero,List.set_cons_succ])
    go_cut [41] (fun v41 wc => ∃ (kq : Nat) (x41_8 : Bool),v41 = .bool x41_8 ∧ Aside0 (laws_FnOrdNext.j1 kq l1 t1063 t1066 t1067 x41_8 = some r) ∧ Aside0 (kq ≤ kj2) ∧ Aside0 (Kd.R (Kd.int .i64) 3 wc w.heap.size (fun k_ => some k_ ≠ (v1068 : Value).ownBlock) (.slice Ao11 t1063.length co11) t1063) ∧ Aside0 (Kd.R (Kd.int .i64) 3 wc w.heap.size (fun k_ => some k_ ≠ ((.slice Ao11 t1063.length co11) : Value).ownBlock) v1068 t1066) ∧ Aside0 (Below w.heap.size w wc))
    case first =>
     have H := HC9.out
     clear HC9
     replace H := Option.bind_eq_some_iff.mp H
     obtain ⟨t1074,A140,H⟩ := H
     replace H : (if t1074 = true then (laws_FnOrdNext.j1 kj2 l1 t1063 t1066 t1067 (t1067 != t1071)) else (laws_FnOrdNext.j1 kj2 l1 t1063 t1066 t1067 true)) = some r := H
     have A14 := Aside0.mk A140
     clear A140
     by_cases c15 : t1074 = true
     ·subst c15
      have H1 : (laws_FnOrdNext.j1 kj2 l1 t1063 t1066 t1067 (t1067 != t1071)) = some r := by rw [if_pos rfl] at H;exact H
      clear H
      have H := H1
      clear H1
      have H' := Aside0.mk H
      clear H
      obtain ⟨Ao16,co16,eo16⟩ := Kd.R_slice HO1069.out
      subst eo16
      obtain ⟨Ao17,co17,eo17⟩ := Kd.R_slice HO1073.out
      subst eo17
      go_wp2_with (first|((with_reducible refine gate_callee (f := 17) rfl ?_);refine goesL_ (some 35) rfl rfl Try.func17 (by kernel_rfl) rfl #[.slice Ao16 t1066.length co16,.slice Ao17 t1070.length co17] rfl az ?_;(with_reducible refine (laws_sameInts.calls kj2 _ _ t1066 _ _ t1070 true _ ?side1 ?side2 ?side3 ?side4 A14.out).mono ?_);(case side1 => exact Kd.Cz (Kd.R_reads' HO1069.out).2.2);(case side2 => exact (Kd.R_reads' HO1069.out).2.1);(case side3 => exact Kd.Cz (Kd.R_reads' HO1073.out).2.2);(case side4 => exact (Kd.R_reads' HO1073.out).2.1);rintro e w' ⟨rfl,⟨nd,rfl⟩⟩;refine ⟨_,rfl,?_⟩))
      go_meet
      case rel => exact ⟨_,((t1067 != t1071)),(by first|rfl|(simp;done)|(simp [*];done)),H',⟨by have := HJ2.out;first|omega|exact Nat.le_refl _⟩,⟨by (with_reducible repeat (first|apply Kd.R_alloc|apply Kd.R_drewN|apply Kd.R_drew));exact Kd.R_mono HO1065.out (fun _ hk => hk.1.2)⟩,⟨by (with_reducible repeat (first|apply Kd.R_alloc|apply Kd.R_drewN|apply Kd.R_drew));exact Kd.R_mono HO1069.out (fun _ hk => hk.1.2)⟩,⟨bz⟩⟩
     ·replace c15 := Bool.eq_false_iff.mpr c15
      subst c15
      have H1 : (laws_FnOrdNext.j1 kj2 l1 t1063 t1066 t1067 true) = some r := by rw [if_neg (show ¬ (false = true) by decide)] at H;exact H
      clear H
      have H := H1
      clear H1
      have H' := Aside0.mk H
      clear H
      obtain ⟨Ao18,co18,eo18⟩ := Kd.R_slice HO1069.out
      subst eo18
      obtain ⟨Ao19,co19,eo19⟩ := Kd.R_slice HO1073.out
      subst eo19
      go_wp2_with (first|((with_reducible refine gate_callee (f := 17) rfl ?_);refine goesL_ (some 35) rfl rfl Try.func17 (by kernel_rfl) rfl #[.slice Ao18 t1066.length co18,.slice Ao19 t1070.length co19] rfl az ?_;(with_reducible refine (laws_sameInts.calls kj2 _ _ t1066 _ _ t1070 false _ ?side1 ?side2 ?side3 ?side4 A14.out).mono ?_);(case side1 => exact Kd.Cz (Kd.R_reads' HO1069.out).2.2);(case side2 => exact (Kd.R_reads' HO1069.out).2.1);(case side3 => exact Kd.Cz (Kd.R_reads' HO1073.out).2.2);(case side4 => exact (Kd.R_reads' HO1073.out).2.1);rintro e w' ⟨rfl,⟨nd,rfl⟩⟩;refine ⟨_,rfl,?_⟩))
      go_meet
      case rel => exact ⟨_,(true),(by first|rfl|(simp;done)|(simp [*];done)),H',⟨by have := HJ2.out;first|omega|exact Nat.le_refl _⟩,⟨by (with_reducible repeat (first|apply Kd.R_alloc|apply Kd.R_drewN|apply Kd.R_drew));exact Kd.R_mono HO1065.out (fun _ hk => hk.1.2)⟩,⟨by (with_reducible repeat (first|apply Kd.R_alloc|apply Kd.R_drewN|apply Kd.R_drew));exact Kd.R_mono HO1069.out (fun _ hk => hk.1.2)⟩,⟨bz⟩⟩
    case rest =>
     clear HC9
     try clear c1
     try clear c2
     try clear p2
     try clear c4
     try clear c4b0
     try clear c4b1
     try clear c5
     try clear c13
     try clear c15
     try clear c17
     try clear p2
     obtain ⟨kq,x41_8,rfl,HA,HJ8,HO_5,HO_6,HB⟩ := hcut
     cases kq with
     | zero => exact absurd HA.out (by simp [laws_FnOrdNext.j1])
     | succ kj8 =>
      have H := HA.out
      clear HA
      simp only [laws_FnOrdNext.j1] at H
      by_cases c20 : x41_8 = true
      ·subst c20
       have H1 : (some false) = some r := by rw [if_pos rfl] at H;exact H
       clear H
       have H := H1
       clear H1
       obtain rfl := Option.some.inj H
       go_wp2
       go_ret
       exact ⟨by first|rfl|(simp [errW_none,errW_some] <;> rfl)|(simp [*,errW_none,errW_some] <;> rfl),bz⟩
      ·replace c20 := Bool.eq_false_iff.mpr c20
       subst c20
       have H1 : (if t1067 = true then ((spec_DrawOrdNext.f kj8 l1).bind fun t1076 => ((impl_OrdBefore.f kj8 t1066).bind fun bt1079 => ((impl_OrdValid.f kj8 t1066).bind fun t1083 => (if t1083 = true then ((impl_OrdCompare.f kj8 t1063 t1066).bind fun t1084 => (if t1084 = (-1) then ((impl_OrdCompare.f kj8 t1063 t1076).bind fun t1085 => (if t1085 = (-1) then ((impl_OrdCompare.f kj8 t1076 t1066).bind fun t1086 => (if t1086 = (-1) then (some false) else (if bt1079.2 = true then ((laws_sameInts.f kj8 bt1079.1 t1063).bind fun t1087 => (some t1087)) else (some false)))) else (if bt1079.2 = true then ((laws_sameInts.f kj8 bt1079.1 t1063).bind fun t1088 => (some t1088)) else (some false)))) else (some false))) else (some false))))) else (if (t1066.length : Int) = 0 then ((laws_alive.f kj8).bind fun t1075 => (some t1075)) else (some false))) = some r := by rw [if_neg (show ¬ (false = true) by decide)] at H;exact H
       clear H
       have H := H1
       clear H1
       by_cases c21 : t1067 = true
       ·subst c21
        have H1 : ((spec_DrawOrdNext.f kj8 l1).bind fun t1076 => ((impl_OrdBefore.f kj8 t1066).bind fun bt1079 => ((impl_OrdValid.f kj8 t1066).bind fun t1083 => (if t1083 = true then ((impl_OrdCompare.f kj8 t1063 t1066).bind fun t1084 => (if t1084 = (-1) then ((impl_OrdCompare.f kj8 t1063 t1076).bind fun t1085 => (if t1085 = (-1) then ((impl_OrdCompare.f kj8 t1076 t1066).bind fun t1086 => (if t1086 = (-1) then (some false) else (if bt1079.2 = true then ((laws_sameInts.f kj8 bt1079.1 t1063).bind fun t1087 => (some t1087)) else (some false)))) else (if bt1079.2 = true then ((laws_sameInts.f kj8 bt1079.1 t1063).bind fun t1088 => (some t1088)) else (some false)))) else (some false))) else (some false))))) = some r := by rw [if_pos rfl] at H;exact H
        clear H
        have H := H1
        clear H1
        replace H := Option.bind_eq_some_iff.mp H
        obtain ⟨t1076,A220,H⟩ := H
        replace H : ((impl_OrdBefore.f kj8 t1066).bind fun bt1079 => ((impl_OrdValid.f kj8 t1066).bind fun t1083 => (if t1083 = true then ((impl_OrdCompare.f kj8 t1063 t1066).bind fun t1084 => (if t1084 = (-1) then ((impl_OrdCompare.f kj8 t1063 t1076).bind fun t1085 => (if t1085 = (-1) then ((impl_OrdCompare.f kj8 t1076 t1066).bind fun t1086 => (if t1086 = (-1) then (some false) else (if bt1079.2 = true then ((laws_sameInts.f kj8 bt1079.1 t1063).bind fun t1087 => (some t1087)) else (some false)))) else (if bt1079.2 = true then ((laws_sameInts.f kj8 bt1079.1 t1063).bind fun t1088 => (some t1088)) else (some false)))) else (some false))) else (some false)))) = some r := H
        have A22 := Aside0.mk A220
        clear A220
        replace H := Option.bind_eq_some_iff.mp H
        obtain ⟨⟨t1079,t1080⟩,A230,H⟩ := H
        replace H : ((impl_OrdValid.f kj8 t1066).bind fun t1083 => (if t1083 = true then ((impl_OrdCompare.f kj8 t1063 t1066).bind fun t1084 => (if t1084 = (-1) then ((impl_OrdCompare.f kj8 t1063 t1076).bind fun t1085 => (if t1085 = (-1) then ((impl_OrdCompare.f kj8 t1076 t1066).bind fun t1086 => (if t1086 = (-1) then (some false) else (if t1080 = true then ((laws_sameInts.f kj8 t1079 t1063).bind fun t1087 => (some t1087)) else (some false)))) else (if t1080 = true then ((laws_sameInts.f kj8 t1079 t1063).bind fun t1088 => (some t1088)) else (some false)))) else (some false))) else (some false))) = some r := H
        have A23 := Aside0.mk A230
        clear A230
        replace H := Option.bind_eq_some_iff.mp H
        obtain ⟨t1083,A240,H⟩ := H
        replace H : (if t1083 = true then ((impl_OrdCompare.f kj8 t1063 t1066).bind fun t1084 => (if t1084 = (-1) then ((impl_OrdCompare.f kj8 t1063 t1076).bind fun t1085 => (if t1085 = (-1) then ((impl_OrdCompare.f kj8 t1076 t1066).bind fun t1086 => (if t1086 = (-1) then (some false) else (if t1080 = true then ((laws_sameInts.f kj8 t1079 t1063).bind fun t1087 => (some t1087)) else (some false)))) else (if t1080 = true then ((laws_sameInts.f kj8 t1079 t1063).bind fun t1088 => (some t1088)) else (some false)))) else (some false))) else (some false)) = some r := H
        have A24 := Aside0.mk A240
        clear A240
        by_cases c25 : t1083 = true
        ·subst c25
         have H1 : ((impl_OrdCompare.f kj8 t1063 t1066).bind fun t1084 => (if t1084 = (-1) then ((impl_OrdCompare.f kj8 t1063 t1076).bind fun t1085 => (if t1085 = (-1) then ((impl_OrdCompare.f kj8 t1076 t1066).bind fun t1086 => (if t1086 = (-1) then (some false) else (if t1080 = true then ((laws_sameInts.f kj8 t1079 t1063).bind fun t1087 => (some t1087)) else (some false)))) else (if t1080 = true then ((laws_sameInts.f kj8 t1079 t1063).bind fun t1088 => (some t1088)) else (some false)))) else (some false))) = some r := by rw [if_pos rfl] at H;exact H
         clear H
         have H := H1
         clear H1
         replace H := Option.bind_eq_some_iff.mp H
         obtain ⟨t1084,A260,H⟩ := H
         replace H : (if t1084 = (-1) then ((impl_OrdCompare.f kj8 t1063 t1076).bind fun t1085 => (if t1085 = (-1) then ((impl_OrdCompare.f kj8 t1076 t1066).bind fun t1086 => (if t1086 = (-1) then (some false) else (if t1080 = true then ((laws_sameInts.f kj8 t1079 t1063).bind fun t1087 => (some t1087)) else (some false)))) else (if t1080 = true then ((laws_sameInts.f kj8 t1079 t1063).bind fun t1088 => (some t1088)) else (some false)))) else (some false)) = some r := H
         have A26 := Aside0.mk A260
         clear A260
         by_cases c27 : t1084 = (-1)
         ·rw [if_pos c27] at H
          have c27b0 : (t1084 == (-1)) = true := beq_iff_eq.mpr c27
          have c27b1 : (t1084 != (-1)) = false := bne_eq_false_iff_eq.mpr c27
          clear c27
          replace H := Option.bind_eq_some_iff.mp H
          obtain ⟨t1085,A280,H⟩ := H
          replace H : (if t1085 = (-1) then ((impl_OrdCompare.f kj8 t1076 t1066).bind fun t1086 => (if t1086 = (-1) then (some false) else (if t1080 = true then ((laws_sameInts.f kj8 t1079 t1063).bind fun t1087 => (some t1087)) else (some false)))) else (if t1080 = true then ((laws_sameInts.f kj8 t1079 t1063).bind fun t1088 => (some t1088)) else (some false))) = some r := H
          have A28 := Aside0.mk A280
          clear A280
          by_cases c29 : t1085 = (-1)
          ·rw [if_pos c29] at H
           have c29b0 : (t1085 == (-1)) = true := beq_iff_eq.mpr c29
           have c29b1 : (t1085 != (-1)) = false := bne_eq_false_iff_eq.mpr c29
           clear c29
           replace H := Option.bind_eq_some_iff.mp H
           obtain ⟨t1086,A300,H⟩ := H
           replace H : (if t1086 = (-1) then (some false) else (if t1080 = true then ((laws_sameInts.f kj8 t1079 t1063).bind fun t1087 => (some t1087)) else (some false))) = some r := H
           have A30 := Aside0.mk A300
           clear A300
           by_cases c31 : t1086 = (-1)
           ·rw [if_pos c31] at H
            have c31b0 : (t1086 == (-1)) = true := beq_iff_eq.mpr c31
            have c31b1 : (t1086 != (-1)) = false := bne_eq_false_iff_eq.mpr c31
            clear c31
            obtain rfl := Option.some.inj H
            go_wp2_with (first|((with_reducible refine gate_callee (f := 50) rfl ?_);refine goesL_ (some 51) rfl rfl Try.func50 (by kernel_rfl) rfl #[.slice A1 l1.length c1] rfl az ?_;(with_reducible refine (spec_DrawOrdNext.calls kj8 _ _ l1 t1076 _ ?side1 ?side2 A22.out).mono ?_);(case side1 => exact Kd.Cz (Kd.C_below HR1.out HB.out));(case side2 => exact HC1.out);rintro e w32 ⟨v1077,rfl,ho0,hb⟩;refine ⟨_,rfl,?_⟩;have n0_ := Aside0.mk (Kd.R_elder' (Kd.Rz HO_5.out) (Kd.R_base ho0) hb);have n1_ := Aside0.mk (Kd.R_elder' (Kd.Rz HO_6.out) (Kd.R_base ho0) hb);have n2_ := Aside0.mk (Kd.R_lower (Kd.R_new' (Kd.R_new' ho0 (Kd.R_lt (Kd.Rz HO_5.out))) (Kd.R_lt (Kd.Rz HO_6.out))) (below_size bz));have n3_ := Aside0.mk (below_step bz hb);clear HO_5;clear HO_6;clear HB;have HO_5 := n0_;have HO_6 := n1_;have HO1078 := n2_;have HB := n3_;clear n0_ n1_ n2_ n3_;(try clear hb);(try clear hb2);(try clear hk);(try clear hi);(try clear ho0);obtain ⟨Ao33,co33,eo33⟩ := Kd.R_slice HO_6.out;subst eo33)|((with_reducible refine gate_callee (f := 47) rfl ?_);refine goesL_ (some 54) rfl rfl Try.func47 (by kernel_rfl) rfl #[.slice Ao33 t1066.length co33] rfl az ?_;(with_reducible refine (impl_OrdBefore.calls kj8 _ _ t1066 t1079 t1080 _ ?side1 ?side2 A23.out).mono ?_);(case side1 => exact Kd.Cz (Kd.R_reads' HO_6.out).2.2);(case side2 => exact (Kd.R_reads' HO_6.out).2.1);rintro e w34 ⟨v1081,rfl,ho0,hb⟩;refine ⟨_,rfl,?_⟩;have n0_ := Aside0.mk (Kd.R_elder' (Kd.Rz HO_5.out) (Kd.R_base ho0) hb);have n1_ := Aside0.mk (Kd.R_elder' (Kd.Rz HO_6.out) (Kd.R_base ho0) hb);have n2_ := Aside0.mk (Kd.R_elder' (Kd.Rz HO1078.out) (Kd.R_base ho0) hb);have n3_ := Aside0.mk (Kd.R_lower (Kd.R_new' (Kd.R_new' (Kd.R_new' ho0 (Kd.R_lt (Kd.Rz HO_5.out))) (Kd.R_lt (Kd.Rz HO_6.out))) (Kd.R_lt (Kd.Rz HO1078.out))) (below_size bz));have n4_ := Aside0.mk (below_step bz hb);clear HO_5;clear HO_6;clear HO1078;clear HB;have HO_5 := n0_;have HO_6 := n1_;have HO1078 := n2_;have HO1082 := n3_;have HB := n4_;clear n0_ n1_ n2_ n3_ n4_;(try clear hb);(try clear hb2);(try clear hk);(try clear hi);(try clear ho0))|((with_reducible refine gate_callee (f := 21) rfl ?_);refine goesL_ (some 58) rfl rfl Try.func21 (by kernel_rfl) rfl #[.slice Ao33 t1066.length co33] rfl az ?_;(with_reducible refine (impl_OrdValid.calls kj8 _ _ t1066 true _ ?side1 ?side2 A24.out).mono ?_);(case side1 => exact Kd.Cz (Kd.R_reads' HO_6.out).2.2);(case side2 => exact (Kd.R_reads' HO_6.out).2.1);rintro e w35 ⟨rfl,hb⟩;refine ⟨_,rfl,?_⟩;have n0_ := Aside0.mk (Kd.R_below (Kd.Rz HO_5.out) hb);have n1_ := Aside0.mk (Kd.R_below (Kd.Rz HO_6.out) hb);have n2_ := Aside0.mk (Kd.R_below (Kd.Rz HO1078.out) hb);have n3_ := Aside0.mk (Kd.R_below (Kd.Rz HO1082.out) hb);have n4_ := Aside0.mk (below_step bz hb);clear HO_5;clear HO_6;clear HO1078;clear HO1082;clear HB;have HO_5 := n0_;have HO_6 := n1_;have HO1078 := n2_;have HO1082 := n3_;have HB := n4_;clear n0_ n1_ n2_ n3_ n4_;(try clear hb);(try clear hb2);(try clear hk);(try clear hi))|(go_at_call 28;(with_reducible refine (impl_OrdCompare.calls kj8 _ _ t1063 _ _ t1066 t1084 _ ?side1 ?side2 ?side3 ?side4 A26.out).mono ?_);(case side1 => exact Kd.Cz (Kd.R_reads' HO_5.out).2.2);(case side2 => exact (Kd.R_reads' HO_5.out).2.1);(case side3 => exact Kd.Cz (Kd.R_reads' HO_6.out).2.2);(case side4 => exact (Kd.R_reads' HO_6.out).2.1);rintro e w36 ⟨rfl,hb⟩;have n0_ := Aside0.mk (Kd.R_below (Kd.Rz HO_5.out) hb);have n1_ := Aside0.mk (Kd.R_below (Kd.Rz HO_6.out) hb);have n2_ := Aside0.mk (Kd.R_below (Kd.Rz HO1078.out) hb);have n3_ := Aside0.mk (Kd.R_below (Kd.Rz HO1082.out) hb);have n4_ := Aside0.mk (below_step bz hb);clear HO_5;clear HO_6;clear HO1078;clear HO1082;clear HB;have HO_5 := n0_;have HO_6 := n1_;have HO1078 := n2_;have HO1082 := n3_;have HB := n4_;clear n0_ n1_ n2_ n3_ n4_;(try clear hb);(try clear hb2);(try clear hk);(try clear hi);obtain ⟨Ao37,co37,eo37⟩ := Kd.R_slice HO1078.out;subst eo37)|(go_at_call 28;(with_reducible refine (impl_OrdCompare.calls kj8 _ _ t1063 _ _ t1076 t1085 _ ?side1 ?side2 ?side3 ?side4 A28.out).mono ?_);(case side1 => exact Kd.Cz (Kd.R_reads' HO_5.out).2.2);(case side2 => exact (Kd.R_reads' HO_5.out).2.1);(case side3 => exact Kd.Cz (Kd.R_reads' HO1078.out).2.2);(case side4 => exact (Kd.R_reads' HO1078.out).2.1);rintro e w38 ⟨rfl,hb⟩;have n0_ := Aside0.mk (Kd.R_below (Kd.Rz HO_5.out) hb);have n1_ := Aside0.mk (Kd.R_below (Kd.Rz HO_6.out) hb);have n2_ := Aside0.mk (Kd.R_below (Kd.Rz HO1078.out) hb);have n3_ := Aside0.mk (Kd.R_below (Kd.Rz HO1082.out) hb);have n4_ := Aside0.mk (below_step bz hb);clear HO_5;clear HO_6;clear HO1078;clear HO1082;clear HB;have HO_5 := n0_;have HO_6 := n1_;have HO1078 := n2_;have HO1082 := n3_;have HB := n4_;clear n0_ n1_ n2_ n3_ n4_;(try clear hb);(try clear hb2);(try clear hk);(try clear hi))|(go_at_call 28;(with_reducible refine (impl_OrdCompare.calls kj8 _ _ t1076 _ _ t1066 t1086 _ ?side1 ?side2 ?side3 ?side4 A30.out).mono ?_);(case side1 => exact Kd.Cz (Kd.R_reads' HO1078.out).2.2);(case side2 => exact (Kd.R_reads' HO1078.out).2.1);(case side3 => exact Kd.Cz (Kd.R_reads' HO_6.out).2.2);(case side4 => exact (Kd.R_reads' HO_6.out).2.1);rintro e w39 ⟨rfl,hb⟩;have n0_ := Aside0.mk (Kd.R_below (Kd.Rz HO_5.out) hb);have n1_ := Aside0.mk (Kd.R_below (Kd.Rz HO_6.out) hb);have n2_ := Aside0.mk (Kd.R_below (Kd.Rz HO1078.out) hb);have n3_ := Aside0.mk (Kd.R_below (Kd.Rz HO1082.out) hb);have n4_ := Aside0.mk (below_step bz hb);clear HO_5;clear HO_6;clear HO1078;clear HO1082;clear HB;have HO_5 := n0_;have HO_6 := n1_;have HO1078 := n2_;have HO1082 := n3_;have HB := n4_;clear n0_ n1_ n2_ n3_ n4_;(try clear hb);(try clear hb2);(try clear hk);(try clear hi)))
            go_ret
            exact ⟨by first|rfl|(simp [errW_none,errW_some] <;> rfl)|(simp [*,errW_none,errW_some] <;> rfl),bz⟩
           ·rw [if_neg c31] at H
            have c31b0 : (t1086 == (-1)) = false := beq_eq_false_iff_ne.mpr c31
            have c31b1 : (t1086 != (-1)) = true := bne_iff_ne.mpr c31
            by_cases c40 : t1080 = true
            ·subst c40
             have H1 : ((laws_sameInts.f kj8 t1079 t1063).bind fun t1087 => (some t1087)) = some r := by rw [if_pos rfl] at H;exact H
             clear H
             have H := H1
             clear H1
             replace H := Option.bind_eq_some_iff.mp H
             obtain ⟨t1087,A410,H⟩ := H
             replace H : (some t1087) = some r := H
             have A41 := Aside0.mk A410
             clear A410
             obtain rfl := Option.some.inj H
             go_wp2_with (first|((with_reducible refine gate_callee (f := 50) rfl ?_);refine goesL_ (some 51) rfl rfl Try.func50 (by kernel_rfl) rfl #[.slice A1 l1.length c1] rfl az ?_;(with_reducible refine (spec_DrawOrdNext.calls kj8 _ _ l1 t1076 _ ?side1 ?side2 A22.out).mono ?_);(case side1 => exact Kd.Cz (Kd.C_below HR1.out HB.out));(case side2 => exact HC1.out);rintro e w42 ⟨v1077,rfl,ho0,hb⟩;refine ⟨_,rfl,?_⟩;have n0_ := Aside0.mk (Kd.R_elder' (Kd.Rz HO_5.out) (Kd.R_base ho0) hb);have n1_ := Aside0.mk (Kd.R_elder' (Kd.Rz HO_6.out) (Kd.R_base ho0) hb);have n2_ := Aside0.mk (Kd.R_lower (Kd.R_new' (Kd.R_new' ho0 (Kd.R_lt (Kd.Rz HO_5.out))) (Kd.R_lt (Kd.Rz HO_6.out))) (below_size bz));have n3_ := Aside0.mk (below_step bz hb);clear HO_5;clear HO_6;clear HB;have HO_5 := n0_;have HO_6 := n1_;have HO1078 := n2_;have HB := n3_;clear n0_ n1_ n2_ n3_;(try clear hb);(try clear hb2);(try clear hk);(try clear hi);(try clear ho0);obtain ⟨Ao43,co43,eo43⟩ := Kd.R_slice HO_6.out;subst eo43)|((with_reducible refine gate_callee (f := 47) rfl ?_);refine goesL_ (some 54) rfl rfl Try.func47 (by kernel_rfl) rfl #[.slice Ao43 t1066.length co43] rfl az ?_;(with_reducible refine (impl_OrdBefore.calls kj8 _ _ t1066 t1079 true _ ?side1 ?side2 A23.out).mono ?_);(case side1 => exact Kd.Cz (Kd.R_reads' HO_6.out).2.2);(case side2 => exact (Kd.R_reads' HO_6.out).2.1);rintro e w44 ⟨v1081,rfl,ho0,hb⟩;refine ⟨_,rfl,?_⟩;have n0_ := Aside0.mk (Kd.R_elder' (Kd.Rz HO_5.out) (Kd.R_base ho0) hb);have n1_ := Aside0.mk (Kd.R_elder' (Kd.Rz HO_6.out) (Kd.R_base ho0) hb);have n2_ := Aside0.mk (Kd.R_elder' (Kd.Rz HO1078.out) (Kd.R_base ho0) hb);have n3_ := Aside0.mk (Kd.R_lower (Kd.R_new' (Kd.R_new' (Kd.R_new' ho0 (Kd.R_lt (Kd.Rz HO_5.out))) (Kd.R_lt (Kd.Rz HO_6.out))) (Kd.R_lt (Kd.Rz HO1078.out))) (below_size bz));have n4_ := Aside0.mk (below_step bz hb);clear HO_5;clear HO_6;clear HO1078;clear HB;have HO_5 := n0_;have HO_6 := n1_;have HO1078 := n2_;have HO1082 := n3_;have HB := n4_;clear n0_ n1_ n2_ n3_ n4_;(try clear hb);(try clear hb2);(try clear hk);(try clear hi);(try clear ho0))|((with_reducible refine gate_callee (f := 21) rfl ?_);refine goesL_ (some 58) rfl rfl Try.func21 (by kernel_rfl) rfl #[.slice Ao43 t1066.length co43] rfl az ?_;(with_reducible refine (impl_OrdValid.calls kj8 _ _ t1066 true _ ?side1 ?side2 A24.out).mono ?_);(case side1 => exact Kd.Cz (Kd.R_reads' HO_6.out).2.2);(case side2 => exact (Kd.R_reads' HO_6.out).2.1);rintro e w45 ⟨rfl,hb⟩;refine ⟨_,rfl,?_⟩;have n0_ := Aside0.mk (Kd.R_below (Kd.Rz HO_5.out) hb);have n1_ := Aside0.mk (Kd.R_below (Kd.Rz HO_6.out) hb);have n2_ := Aside0.mk (Kd.R_below (Kd.Rz HO1078.out) hb);have n3_ := Aside0.mk (Kd.R_below (Kd.Rz HO1082.out) hb);have n4_ := Aside0.mk (below_step bz hb);clear HO_5;clear HO_6;clear HO1078;clear HO1082;clear HB;have HO_5 := n0_;have HO_6 := n1_;have HO1078 := n2_;have HO1082 := n3_;have HB := n4_;clear n0_ n1_ n2_ n3_ n4_;(try clear hb);(try clear hb2);(try clear hk);(try clear hi))|(go_at_call 28;(with_reducible refine (impl_OrdCompare.calls kj8 _ _ t1063 _ _ t1066 t1084 _ ?side1 ?side2 ?side3 ?side4 A26.out).mono ?_);(case side1 => exact Kd.Cz (Kd.R_reads' HO_5.out).2.2);(case side2 => exact (Kd.R_reads' HO_5.out).2.1);(case side3 => exact Kd.Cz (Kd.R_reads' HO_6.out).2.2);(case side4 => exact (Kd.R_reads' HO_6.out).2.1);rintro e w46 ⟨rfl,hb⟩;have n0_ := Aside0.mk (Kd.R_below (Kd.Rz HO_5.out) hb);have n1_ := Aside0.mk (Kd.R_below (Kd.Rz HO_6.out) hb);have n2_ := Aside0.mk (Kd.R_below (Kd.Rz HO1078.out) hb);have n3_ := Aside0.mk (Kd.R_below (Kd.Rz HO1082.out) hb);have n4_ := Aside0.mk (below_step bz hb);clear HO_5;clear HO_6;clear HO1078;clear HO1082;clear HB;have HO_5 := n0_;have HO_6 := n1_;have HO1078 := n2_;have HO1082 := n3_;have HB := n4_;clear n0_ n1_ n2_ n3_ n4_;(try clear hb);(try clear hb2);(try clear hk);(try clear hi);obtain ⟨Ao47,co47,eo47⟩ := Kd.R_slice HO1078.out;subst eo47)|(go_at_call 28;(with_reducible refine (impl_OrdCompare.calls kj8 _ _ t1063 _ _ t1076 t1085 _ ?side1 ?side2 ?side3 ?side4 A28.out).mono ?_);(case side1 => exact Kd.Cz (Kd.R_reads' HO_5.out).2.2);(case side2 => exact (Kd.R_reads' HO_5.out).2.1);(case side3 => exact Kd.Cz (Kd.R_reads' HO1078.out).2.2);(case side4 => exact (Kd.R_reads' HO1078.out).2.1);rintro e w48 ⟨rfl,hb⟩;have n0_ := Aside0.mk (Kd.R_below (Kd.Rz HO_5.out) hb);have n1_ := Aside0.mk (Kd.R_below (Kd.Rz HO_6.out) hb);have n2_ := Aside0.mk (Kd.R_below (Kd.Rz HO1078.out) hb);have n3_ := Aside0.mk (Kd.R_below (Kd.Rz HO1082.out) hb);have n4_ := Aside0.mk (below_step bz hb);clear HO_5;clear HO_6;clear HO1078;clear HO1082;clear HB;have HO_5 := n0_;have HO_6 := n1_;have HO1078 := n2_;have HO1082 := n3_;have HB := n4_;clear n0_ n1_ n2_ n3_ n4_;(try clear hb);(try clear hb2);(try clear hk);(try clear hi))|(go_at_call 28;(with_reducible refine (impl_OrdCompare.calls kj8 _ _ t1076 _ _ t1066 t1086 _ ?side1 ?side2 ?side3 ?side4 A30.out).mono ?_);(case side1 => exact Kd.Cz (Kd.R_reads' HO1078.out).2.2);(case side2 => exact (Kd.R_reads' HO1078.out).2.1);(case side3 => exact Kd.Cz (Kd.R_reads' HO_6.out).2.2);(case side4 => exact (Kd.R_reads' HO_6.out).2.1);rintro e w49 ⟨rfl,hb⟩;have n0_ := Aside0.mk (Kd.R_below (Kd.Rz HO_5.out) hb);have n1_ := Aside0.mk (Kd.R_below (Kd.Rz HO_6.out) hb);have n2_ := Aside0.mk (Kd.R_below (Kd.Rz HO1078.out) hb);have n3_ := Aside0.mk (Kd.R_below (Kd.Rz HO1082.out) hb);have n4_ := Aside0.mk (below_step bz hb);clear HO_5;clear HO_6;clear HO1078;clear HO1082;clear HB;have HO_5 := n0_;have HO_6 := n1_;have HO1078 := n2_;have HO1082 := n3_;have HB := n4_;clear n0_ n1_ n2_ n3_ n4_;(try clear hb);(try clear hb2);(try clear hk);(try clear hi);obtain ⟨Ao50,co50,eo50⟩ := Kd.R_slice HO1082.out;subst eo50)|(go_at_call 17;(with_reducible refine (laws_sameInts.calls kj8 _ _ t1079 _ _ t1063 t1087 _ ?side1 ?side2 ?side3 ?side4 A41.out).mono ?_);(case side1 => exact Kd.Cz (Kd.R_reads' HO1082.out).2.2);(case side2 => exact (Kd.R_reads' HO1082.out).2.1);(case side3 => exact Kd.Cz (Kd.R_reads' HO_5.out).2.2);(case side4 => exact (Kd.R_reads' HO_5.out).2.1);rintro e w' ⟨rfl,⟨nd,rfl⟩⟩))
             go_ret
             exact ⟨by first|rfl|(simp [errW_none,errW_some] <;> rfl)|(simp [*,errW_none,errW_some] <;> rfl),bz⟩
            ·replace c40 := Bool.eq_false_iff.mpr c40
             subst c40
             have H1 : (some false) = some r := by rw [if_neg (show ¬ (false = true) by decide)] at H;exact H
             clear H
             have H := H1
             clear H1
             obtain rfl := Option.some.inj H
             go_wp2_with (first|((with_reducible refine gate_callee (f := 50) rfl ?_);refine goesL_ (some 51) rfl rfl Try.func50 (by kernel_rfl) rfl #[.slice A1 l1.length c1] rfl az ?_;(with_reducible refine (spec_DrawOrdNext.calls kj8 _ _ l1 t1076 _ ?side1 ?side2 A22.out).mono ?_);(case side1 => exact Kd.Cz (Kd.C_below HR1.out HB.out));(case side2 => exact HC1.out);rintro e w51 ⟨v1077,rfl,ho0,hb⟩;refine ⟨_,rfl,?_⟩;have n0_ := Aside0.mk (Kd.R_elder' (Kd.Rz HO_5.out) (Kd.R_base ho0) hb);have n1_ := Aside0.mk (Kd.R_elder' (Kd.Rz HO_6.out) (Kd.R_base ho0) hb);have n2_ := Aside0.mk (Kd.R_lower (Kd.R_new' (Kd.R_new' ho0 (Kd.R_lt (Kd.Rz HO_5.out))) (Kd.R_lt (Kd.Rz HO_6.out))) (below_size bz));have n3_ := Aside0.mk (below_step bz hb);clear HO_5;clear HO_6;clear HB;have HO_5 := n0_;have HO_6 := n1_;have HO1078 := n2_;have HB := n3_;clear n0_ n1_ n2_ n3_;(try clear hb);(try clear hb2);(try clear hk);(try clear hi);(try clear ho0);obtain ⟨Ao52,co52,eo52⟩ := Kd.R_slice HO_6.out;subst eo52)|((with_reducible refine gate_callee (f := 47) rfl ?_);refine goesL_ (some 54) rfl rfl Try.func47 (by kernel_rfl) rfl #[.slice Ao52 t1066.length co52] rfl az ?_;(with_reducible refine (impl_OrdBefore.calls kj8 _ _ t1066 t1079 false _ ?side1 ?side2 A23.out).mono ?_);(case side1 => exact Kd.Cz (Kd.R_reads' HO_6.out).2.2);(case side2 => exact (Kd.R_reads' HO_6.out).2.1);rintro e w53 ⟨v1081,rfl,ho0,hb⟩;refine ⟨_,rfl,?_⟩;have n0_ := Aside0.mk (Kd.R_elder' (Kd.Rz HO_5.out) (Kd.R_base ho0) hb);have n1_ := Aside0.mk (Kd.R_elder' (Kd.Rz HO_6.out) (Kd.R_base ho0) hb);have n2_ := Aside0.mk (Kd.R_elder' (Kd.Rz HO1078.out) (Kd.R_base ho0) hb);have n3_ := Aside0.mk (Kd.R_lower (Kd.R_new' (Kd.R_new' (Kd.R_new' ho0 (Kd.R_lt (Kd.Rz HO_5.out))) (Kd.R_lt (Kd.Rz HO_6.out))) (Kd.R_lt (Kd.Rz HO1078.out))) (below_size bz));have n4_ := Aside0.mk (below_step bz hb);clear HO_5;clear HO_6;clear HO1078;clear HB;have HO_5 := n0_;have HO_6 := n1_;have HO1078 := n2_;have HO1082 := n3_;have HB := n4_;clear n0_ n1_ n2_ n3_ n4_;(try clear hb);(try clear hb2);(try clear hk);(try clear hi);(try clear ho0))|((with_reducible refine gate_callee (f := 21) rfl ?_);refine goesL_ (some 58) rfl rfl Try.func21 (by kernel_rfl) rfl #[.slice Ao52 t1066.length co52] rfl az ?_;(with_reducible refine (impl_OrdValid.calls kj8 _ _ t1066 true _ ?side1 ?side2 A24.out).mono ?_);(case side1 => exact Kd.Cz (Kd.R_reads' HO_6.out).2.2);(case side2 => exact (Kd.R_reads' HO_6.out).2.1);rintro e w54 ⟨rfl,hb⟩;refine ⟨_,rfl,?_⟩;have n0_ := Aside0.mk (Kd.R_below (Kd.Rz HO_5.out) hb);have n1_ := Aside0.mk (Kd.R_below (Kd.Rz HO_6.out) hb);have n2_ := Aside0.mk (Kd.R_below (Kd.Rz HO1078.out) hb);have n3_ := Aside0.mk (Kd.R_below (Kd.Rz HO1082.out) hb);have n4_ := Aside0.mk (below_step bz hb);clear HO_5;clear HO_6;clear HO1078;clear HO1082;clear HB;have HO_5 := n0_;have HO_6 := n1_;have HO1078 := n2_;have HO1082 := n3_;have HB := n4_;clear n0_ n1_ n2_ n3_ n4_;(try clear hb);(try clear hb2);(try clear hk);(try clear hi))|(go_at_call 28;(with_reducible refine (impl_OrdCompare.calls kj8 _ _ t1063 _ _ t1066 t1084 _ ?side1 ?side2 ?side3 ?side4 A26.out).mono ?_);(case side1 => exact Kd.Cz (Kd.R_reads' HO_5.out).2.2);(case side2 => exact (Kd.R_reads' HO_5.out).2.1);(case side3 => exact Kd.Cz (Kd.R_reads' HO_6.out).2.2);(case side4 => exact (Kd.R_reads' HO_6.out).2.1);rintro e w55 ⟨rfl,hb⟩;have n0_ := Aside0.mk (Kd.R_below (Kd.Rz HO_5.out) hb);have n1_ := Aside0.mk (Kd.R_below (Kd.Rz HO_6.out) hb);have n2_ := Aside0.mk (Kd.R_below (Kd.Rz HO1078.out) hb);have n3_ := Aside0.mk (Kd.R_below (Kd.Rz HO1082.out) hb);have n4_ := Aside0.mk (below_step bz hb);clear HO_5;clear HO_6;clear HO1078;clear HO1082;clear HB;have HO_5 := n0_;have HO_6 := n1_;have HO1078 := n2_;have HO1082 := n3_;have HB := n4_;clear n0_ n1_ n2_ n3_ n4_;(try clear hb);(try clear hb2);(try clear hk);(try clear hi);obtain ⟨Ao56,co56,eo56⟩ := Kd.R_slice HO1078.out;subst eo56)|(go_at_call 28;(with_reducible refine (impl_OrdCompare.calls kj8 _ _ t1063 _ _ t1076 t1085 _ ?side1 ?side2 ?side3 ?side4 A28.out).mono ?_);(case side1 => exact Kd.Cz (Kd.R_reads' HO_5.out).2.2);(case side2 => exact (Kd.R_reads' HO_5.out).2.1);(case side3 => exact Kd.Cz (Kd.R_reads' HO1078.out).2.2);(case side4 => exact (Kd.R_reads' HO1078.out).2.1);rintro e w57 ⟨rfl,hb⟩;have n0_ := Aside0.mk (Kd.R_below (Kd.Rz HO_5.out) hb);have n1_ := Aside0.mk (Kd.R_below (Kd.Rz HO_6.out) hb);have n2_ := Aside0.mk (Kd.R_below (Kd.Rz HO1078.out) hb);have n3_ := Aside0.mk (Kd.R_below (Kd.Rz HO1082.out) hb);have n4_ := Aside0.mk (below_step bz hb);clear HO_5;clear HO_6;clear HO1078;clear HO1082;clear HB;have HO_5 := n0_;have HO_6 := n1_;have HO1078 := n2_;have HO1082 := n3_;have HB := n4_;clear n0_ n1_ n2_ n3_ n4_;(try clear hb);(try clear hb2);(try clear hk);(try clear hi))|(go_at_call 28;(with_reducible refine (impl_OrdCompare.calls kj8 _ _ t1076 _ _ t1066 t1086 _ ?side1 ?side2 ?side3 ?side4 A30.out).mono ?_);(case side1 => exact Kd.Cz (Kd.R_reads' HO1078.out).2.2);(case side2 => exact (Kd.R_reads' HO1078.out).2.1);(case side3 => exact Kd.Cz (Kd.R_reads' HO_6.out).2.2);(case side4 => exact (Kd.R_reads' HO_6.out).2.1);rintro e w58 ⟨rfl,hb⟩;have n0_ := Aside0.mk (Kd.R_below (Kd.Rz HO_5.out) hb);have n1_ := Aside0.mk (Kd.R_below (Kd.Rz HO_6.out) hb);have n2_ := Aside0.mk (Kd.R_below (Kd.Rz HO1078.out) hb);have n3_ := Aside0.mk (Kd.R_below (Kd.Rz HO1082.out) hb);have n4_ := Aside0.mk (below_step bz hb);clear HO_5;clear HO_6;clear HO1078;clear HO1082;clear HB;have HO_5 := n0_;have HO_6 := n1_;have HO1078 := n2_;have HO1082 := n3_;have HB := n4_;clear n0_ n1_ n2_ n3_ n4_;(try clear hb);(try clear hb2);(try clear hk);(try clear hi)))
             go_ret
             exact ⟨by first|rfl|(simp [errW_none,errW_some] <;> rfl)|(simp [*,errW_none,errW_some] <;> rfl),bz⟩
          ·rw [if_neg c29] at H
           have c29b0 : (t1085 == (-1)) = false := beq_eq_false_iff_ne.mpr c29
           have c29b1 : (t1085 != (-1)) = true := bne_iff_ne.mpr c29
           by_cases c59 : t1080 = true
           ·subst c59
            have H1 : ((laws_sameInts.f kj8 t1079 t1063).bind fun t1088 => (some t1088)) = some r := by rw [if_pos rfl] at H;exact H
            clear H
            have H := H1
            clear H1
            replace H := Option.bind_eq_some_iff.mp H
            obtain ⟨t1088,A600,H⟩ := H
            replace H : (some t1088) = some r := H
            have A60 := Aside0.mk A600
            clear A600
            obtain rfl := Option.some.inj H
            go_wp2_with (first|((with_reducible refine gate_callee (f := 50) rfl ?_);refine goesL_ (some 51) rfl rfl Try.func50 (by kernel_rfl) rfl #[.slice A1 l1.length c1] rfl az ?_;(with_reducible refine (spec_DrawOrdNext.calls kj8 _ _ l1 t1076 _ ?side1 ?side2 A22.out).mono ?_);(case side1 => exact Kd.Cz (Kd.C_below HR1.out HB.out));(case side2 => exact HC1.out);rintro e w61 ⟨v1077,rfl,ho0,hb⟩;refine ⟨_,rfl,?_⟩;have n0_ := Aside0.mk (Kd.R_elder' (Kd.Rz HO_5.out) (Kd.R_base ho0) hb);have n1_ := Aside0.mk (Kd.R_elder' (Kd.Rz HO_6.out) (Kd.R_base ho0) hb);have n2_ := Aside0.mk (Kd.R_lower (Kd.R_new' (Kd.R_new' ho0 (Kd.R_lt (Kd.Rz HO_5.out))) (Kd.R_lt (Kd.Rz HO_6.out))) (below_size bz));have n3_ := Aside0.mk (below_step bz hb);clear HO_5;clear HO_6;clear HB;have HO_5 := n0_;have HO_6 := n1_;have HO1078 := n2_;have HB := n3_;clear n0_ n1_ n2_ n3_;(try clear hb);(try clear hb2);(try clear hk);(try clear hi);(try clear ho0);obtain ⟨Ao62,co62,eo62⟩ := Kd.R_slice HO_6.out;subst eo62)|((with_reducible refine gate_callee (f := 47) rfl ?_);refine goesL_ (some 54) rfl rfl Try.func47 (by kernel_rfl) rfl #[.slice Ao62 t1066.length co62] rfl az ?_;(with_reducible refine (impl_OrdBefore.calls kj8 _ _ t1066 t1079 true _ ?side1 ?side2 A23.out).mono ?_);(case side1 => exact Kd.Cz (Kd.R_reads' HO_6.out).2.2);(case side2 => exact (Kd.R_reads' HO_6.out).2.1);rintro e w63 ⟨v1081,rfl,ho0,hb⟩;refine ⟨_,rfl,?_⟩;have n0_ := Aside0.mk (Kd.R_elder' (Kd.Rz HO_5.out) (Kd.R_base ho0) hb);have n1_ := Aside0.mk (Kd.R_elder' (Kd.Rz HO_6.out) (Kd.R_base ho0) hb);have n2_ := Aside0.mk (Kd.R_elder' (Kd.Rz HO1078.out) (Kd.R_base ho0) hb);have n3_ := Aside0.mk (Kd.R_lower (Kd.R_new' (Kd.R_new' (Kd.R_new' ho0 (Kd.R_lt (Kd.Rz HO_5.out))) (Kd.R_lt (Kd.Rz HO_6.out))) (Kd.R_lt (Kd.Rz HO1078.out))) (below_size bz));have n4_ := Aside0.mk (below_step bz hb);clear HO_5;clear HO_6;clear HO1078;clear HB;have HO_5 := n0_;have HO_6 := n1_;have HO1078 := n2_;have HO1082 := n3_;have HB := n4_;clear n0_ n1_ n2_ n3_ n4_;(try clear hb);(try clear hb2);(try clear hk);(try clear hi);(try clear ho0))|((with_reducible refine gate_callee (f := 21) rfl ?_);refine goesL_ (some 58) rfl rfl Try.func21 (by kernel_rfl) rfl #[.slice Ao62 t1066.length co62] rfl az ?_;(with_reducible refine (impl_OrdValid.calls kj8 _ _ t1066 true _ ?side1 ?side2 A24.out).mono ?_);(case side1 => exact Kd.Cz (Kd.R_reads' HO_6.out).2.2);(case side2 => exact (Kd.R_reads' HO_6.out).2.1);rintro e w64 ⟨rfl,hb⟩;refine ⟨_,rfl,?_⟩;have n0_ := Aside0.mk (Kd.R_below (Kd.Rz HO_5.out) hb);have n1_ := Aside0.mk (Kd.R_below (Kd.Rz HO_6.out) hb);have n2_ := Aside0.mk (Kd.R_below (Kd.Rz HO1078.out) hb);have n3_ := Aside0.mk (Kd.R_below (Kd.Rz HO1082.out) hb);have n4_ := Aside0.mk (below_step bz hb);clear HO_5;clear HO_6;clear HO1078;clear HO1082;clear HB;have HO_5 := n0_;have HO_6 := n1_;have HO1078 := n2_;have HO1082 := n3_;have HB := n4_;clear n0_ n1_ n2_ n3_ n4_;(try clear hb);(try clear hb2);(try clear hk);(try clear hi))|(go_at_call 28;(with_reducible refine (impl_OrdCompare.calls kj8 _ _ t1063 _ _ t1066 t1084 _ ?side1 ?side2 ?side3 ?side4 A26.out).mono ?_);(case side1 => exact Kd.Cz (Kd.R_reads' HO_5.out).2.2);(case side2 => exact (Kd.R_reads' HO_5.out).2.1);(case side3 => exact Kd.Cz (Kd.R_reads' HO_6.out).2.2);(case side4 => exact (Kd.R_reads' HO_6.out).2.1);rintro e w65 ⟨rfl,hb⟩;have n0_ := Aside0.mk (Kd.R_below (Kd.Rz HO_5.out) hb);have n1_ := Aside0.mk (Kd.R_below (Kd.Rz HO_6.out) hb);have n2_ := Aside0.mk (Kd.R_below (Kd.Rz HO1078.out) hb);have n3_ := Aside0.mk (Kd.R_below (Kd.Rz HO1082.out) hb);have n4_ := Aside0.mk (below_step bz hb);clear HO_5;clear HO_6;clear HO1078;clear HO1082;clear HB;have HO_5 := n0_;have HO_6 := n1_;have HO1078 := n2_;have HO1082 := n3_;have HB := n4_;clear n0_ n1_ n2_ n3_ n4_;(try clear hb);(try clear hb2);(try clear hk);(try clear hi);obtain ⟨Ao66,co66,eo66⟩ := Kd.R_slice HO1078.out;subst eo66)|(go_at_call 28;(with_reducible refine (impl_OrdCompare.calls kj8 _ _ t1063 _ _ t1076 t1085 _ ?side1 ?side2 ?side3 ?side4 A28.out).mono ?_);(case side1 => exact Kd.Cz (Kd.R_reads' HO_5.out).2.2);(case side2 => exact (Kd.R_reads' HO_5.out).2.1);(case side3 => exact Kd.Cz (Kd.R_reads' HO1078.out).2.2);(case side4 => exact (Kd.R_reads' HO1078.out).2.1);rintro e w67 ⟨rfl,hb⟩;have n0_ := Aside0.mk (Kd.R_below (Kd.Rz HO_5.out) hb);have n1_ := Aside0.mk (Kd.R_below (Kd.Rz HO_6.out) hb);have n2_ := Aside0.mk (Kd.R_below (Kd.Rz HO1078.out) hb);have n3_ := Aside0.mk (Kd.R_below (Kd.Rz HO1082.out) hb);have n4_ := Aside0.mk (below_step bz hb);clear HO_5;clear HO_6;clear HO1078;clear HO1082;clear HB;have HO_5 := n0_;have HO_6 := n1_;have HO1078 := n2_;have HO1082 := n3_;have HB := n4_;clear n0_ n1_ n2_ n3_ n4_;(try clear hb);(try clear hb2);(try clear hk);(try clear hi);obtain ⟨Ao68,co68,eo68⟩ := Kd.R_slice HO1082.out;subst eo68)|(go_at_call 17;(with_reducible refine (laws_sameInts.calls kj8 _ _ t1079 _ _ t1063 t1088 _ ?side1 ?side2 ?side3 ?side4 A60.out).mono ?_);(case side1 => exact Kd.Cz (Kd.R_reads' HO1082.out).2.2);(case side2 => exact (Kd.R_reads' HO1082.out).2.1);(case side3 => exact Kd.Cz (Kd.R_reads' HO_5.out).2.2);(case side4 => exact (Kd.R_reads' HO_5.out).2.1);rintro e w' ⟨rfl,⟨nd,rfl⟩⟩))
            go_ret
            exact ⟨by first|rfl|(simp [errW_none,errW_some] <;> rfl)|(simp [*,errW_none,errW_some] <;> rfl),bz⟩
           ·replace c59 := Bool.eq_false_iff.mpr c59
            subst c59
            have H1 : (some false) = some r := by rw [if_neg (show ¬ (false = true) by decide)] at H;exact H
            clear H
            have H := H1
            clear H1
            obtain rfl := Option.some.inj H
            go_wp2_with (first|((with_reducible refine gate_callee (f := 50) rfl ?_);refine goesL_ (some 51) rfl rfl Try.func50 (by kernel_rfl) rfl #[.slice A1 l1.length c1] rfl az ?_;(with_reducible refine (spec_DrawOrdNext.calls kj8 _ _ l1 t1076 _ ?side1 ?side2 A22.out).mono ?_);(case side1 => exact Kd.Cz (Kd.C_below HR1.out HB.out));(case side2 => exact HC1.out);rintro e w69 ⟨v1077,rfl,ho0,hb⟩;refine ⟨_,rfl,?_⟩;have n0_ := Aside0.mk (Kd.R_elder' (Kd.Rz HO_5.out) (Kd.R_base ho0) hb);have n1_ := Aside0.mk (Kd.R_elder' (Kd.Rz HO_6.out) (Kd.R_base ho0) hb);have n2_ := Aside0.mk (Kd.R_lower (Kd.R_new' (Kd.R_new' ho0 (Kd.R_lt (Kd.Rz HO_5.out))) (Kd.R_lt (Kd.Rz HO_6.out))) (below_size bz));have n3_ := Aside0.mk (below_step bz hb);clear HO_5;clear HO_6;clear HB;have HO_5 := n0_;have HO_6 := n1_;have HO1078 := n2_;have HB := n3_;clear n0_ n1_ n2_ n3_;(try clear hb);(try clear hb2);(try clear hk);(try clear hi);(try clear ho0);obtain ⟨Ao70,co70,eo70⟩ := Kd.R_slice HO_6.out;subst eo70)|((with_reducible refine gate_callee (f := 47) rfl ?_);refine goesL_ (some 54) rfl rfl Try.func47 (by kernel_rfl) rfl #[.slice Ao70 t1066.length co70] rfl az ?_;(with_reducible refine (impl_OrdBefore.calls kj8 _ _ t1066 t1079 false _ ?side1 ?side2 A23.out).mono ?_);(case side1 => exact Kd.Cz (Kd.R_reads' HO_6.out).2.2);(case side2 => exact (Kd.R_reads' HO_6.out).2.1);rintro e w71 ⟨v1081,rfl,ho0,hb⟩;refine ⟨_,rfl,?_⟩;have n0_ := Aside0.mk (Kd.R_elder' (Kd.Rz HO_5.out) (Kd.R_base ho0) hb);have n1_ := Aside0.mk (Kd.R_elder' (Kd.Rz HO_6.out) (Kd.R_base ho0) hb);have n2_ := Aside0.mk (Kd.R_elder' (Kd.Rz HO1078.out) (Kd.R_base ho0) hb);have n3_ := Aside0.mk (Kd.R_lower (Kd.R_new' (Kd.R_new' (Kd.R_new' ho0 (Kd.R_lt (Kd.Rz HO_5.out))) (Kd.R_lt (Kd.Rz HO_6.out))) (Kd.R_lt (Kd.Rz HO1078.out))) (below_size bz));have n4_ := Aside0.mk (below_step bz hb);clear HO_5;clear HO_6;clear HO1078;clear HB;have HO_5 := n0_;have HO_6 := n1_;have HO1078 := n2_;have HO1082 := n3_;have HB := n4_;clear n0_ n1_ n2_ n3_ n4_;(try clear hb);(try clear hb2);(try clear hk);(try clear hi);(try clear ho0))|((with_reducible refine gate_callee (f := 21) rfl ?_);refine goesL_ (some 58) rfl rfl Try.func21 (by kernel_rfl) rfl #[.slice Ao70 t1066.length co70] rfl az ?_;(with_reducible refine (impl_OrdValid.calls kj8 _ _ t1066 true _ ?side1 ?side2 A24.out).mono ?_);(case side1 => exact Kd.Cz (Kd.R_reads' HO_6.out).2.2);(case side2 => exact (Kd.R_reads' HO_6.out).2.1);rintro e w72 ⟨rfl,hb⟩;refine ⟨_,rfl,?_⟩;have n0_ := Aside0.mk (Kd.R_below (Kd.Rz HO_5.out) hb);have n1_ := Aside0.mk (Kd.R_below (Kd.Rz HO_6.out) hb);have n2_ := Aside0.mk (Kd.R_below (Kd.Rz HO1078.out) hb);have n3_ := Aside0.mk (Kd.R_below (Kd.Rz HO1082.out) hb);have n4_ := Aside0.mk (below_step bz hb);clear HO_5;clear HO_6;clear HO1078;clear HO1082;clear HB;have HO_5 := n0_;have HO_6 := n1_;have HO1078 := n2_;have HO1082 := n3_;have HB := n4_;clear n0_ n1_ n2_ n3_ n4_;(try clear hb);(try clear hb2);(try clear hk);(try clear hi))|(go_at_call 28;(with_reducible refine (impl_OrdCompare.calls kj8 _ _ t1063 _ _ t1066 t1084 _ ?side1 ?side2 ?side3 ?side4 A26.out).mono ?_);(case side1 => exact Kd.Cz (Kd.R_reads' HO_5.out).2.2);(case side2 => exact (Kd.R_reads' HO_5.out).2.1);(case side3 => exact Kd.Cz (Kd.R_reads' HO_6.out).2.2);(case side4 => exact (Kd.R_reads' HO_6.out).2.1);rintro e w73 ⟨rfl,hb⟩;have n0_ := Aside0.mk (Kd.R_below (Kd.Rz HO_5.out) hb);have n1_ := Aside0.mk (Kd.R_below (Kd.Rz HO_6.out) hb);have n2_ := Aside0.mk (Kd.R_below (Kd.Rz HO1078.out) hb);have n3_ := Aside0.mk (Kd.R_below (Kd.Rz HO1082.out) hb);have n4_ := Aside0.mk (below_step bz hb);clear HO_5;clear HO_6;clear HO1078;clear HO1082;clear HB;have HO_5 := n0_;have HO_6 := n1_;have HO1078 := n2_;have HO1082 := n3_;have HB := n4_;clear n0_ n1_ n2_ n3_ n4_;(try clear hb);(try clear hb2);(try clear hk);(try clear hi);obtain ⟨Ao74,co74,eo74⟩ := Kd.R_slice HO1078.out;subst eo74)|(go_at_call 28;(with_reducible refine (impl_OrdCompare.calls kj8 _ _ t1063 _ _ t1076 t1085 _ ?side1 ?side2 ?side3 ?side4 A28.out).mono ?_);(case side1 => exact Kd.Cz (Kd.R_reads' HO_5.out).2.2);(case side2 => exact (Kd.R_reads' HO_5.out).2.1);(case side3 => exact Kd.Cz (Kd.R_reads' HO1078.out).2.2);(case side4 => exact (Kd.R_reads' HO1078.out).2.1);rintro e w75 ⟨rfl,hb⟩;have n0_ := Aside0.mk (Kd.R_below (Kd.Rz HO_5.out) hb);have n1_ := Aside0.mk (Kd.R_below (Kd.Rz HO_6.out) hb);have n2_ := Aside0.mk (Kd.R_below (Kd.Rz HO1078.out) hb);have n3_ := Aside0.mk (Kd.R_below (Kd.Rz HO1082.out) hb);have n4_ := Aside0.mk (below_step bz hb);clear HO_5;clear HO_6;clear HO1078;clear HO1082;clear HB;have HO_5 := n0_;have HO_6 := n1_;have HO1078 := n2_;have HO1082 := n3_;have HB := n4_;clear n0_ n1_ n2_ n3_ n4_;(try clear hb);(try clear hb2);(try clear hk);(try clear hi)))
            go_ret
            exact ⟨by first|rfl|(simp [errW_none,errW_some] <;> rfl)|(simp [*,errW_none,errW_some] <;> rfl),bz⟩
         ·rw [if_neg c27] at H
          have c27b0 : (t1084 == (-1)) = false := beq_eq_false_iff_ne.mpr c27
          have c27b1 : (t1084 != (-1)) = true := bne_iff_ne.mpr c27
          obtain rfl := Option.some.inj H
          go_wp2_with (first|((with_reducible refine gate_callee (f := 50) rfl ?_);refine goesL_ (some 51) rfl rfl Try.func50 (by kernel_rfl) rfl #[.slice A1 l1.length c1] rfl az ?_;(with_reducible refine (spec_DrawOrdNext.calls kj8 _ _ l1 t1076 _ ?side1 ?side2 A22.out).mono ?_);(case side1 => exact Kd.Cz (Kd.C_below HR1.out HB.out));(case side2 => exact HC1.out);rintro e w76 ⟨v1077,rfl,ho0,hb⟩;refine ⟨_,rfl,?_⟩;have n0_ := Aside0.mk (Kd.R_elder' (Kd.Rz HO_5.out) (Kd.R_base ho0) hb);have n1_ := Aside0.mk (Kd.R_elder' (Kd.Rz HO_6.out) (Kd.R_base ho0) hb);have n2_ := Aside0.mk (Kd.R_lower (Kd.R_new' (Kd.R_new' ho0 (Kd.R_lt (Kd.Rz HO_5.out))) (Kd.R_lt (Kd.Rz HO_6.out))) (below_size bz));have n3_ := Aside0.mk (below_step bz hb);clear HO_5;clear HO_6;clear HB;have HO_5 := n0_;have HO_6 := n1_;have HO1078 := n2_;have HB := n3_;clear n0_ n1_ n2_ n3_;(try clear hb);(try clear hb2);(try clear hk);(try clear hi);(try clear ho0);obtain ⟨Ao77,co77,eo77⟩ := Kd.R_slice HO_6.out;subst eo77)|((with_reducible refine gate_callee (f := 47) rfl ?_);refine goesL_ (some 54) rfl rfl Try.func47 (by kernel_rfl) rfl #[.slice Ao77 t1066.length co77] rfl az ?_;(with_reducible refine (impl_OrdBefore.calls kj8 _ _ t1066 t1079 t1080 _ ?side1 ?side2 A23.out).mono ?_);(case side1 => exact Kd.Cz (Kd.R_reads' HO_6.out).2.2);(case side2 => exact (Kd.R_reads' HO_6.out).2.1);rintro e w78 ⟨v1081,rfl,ho0,hb⟩;refine ⟨_,rfl,?_⟩;have n0_ := Aside0.mk (Kd.R_elder' (Kd.Rz HO_5.out) (Kd.R_base ho0) hb);have n1_ := Aside0.mk (Kd.R_elder' (Kd.Rz HO_6.out) (Kd.R_base ho0) hb);have n2_ := Aside0.mk (Kd.R_elder' (Kd.Rz HO1078.out) (Kd.R_base ho0) hb);have n3_ := Aside0.mk (Kd.R_lower (Kd.R_new' (Kd.R_new' (Kd.R_new' ho0 (Kd.R_lt (Kd.Rz HO_5.out))) (Kd.R_lt (Kd.Rz HO_6.out))) (Kd.R_lt (Kd.Rz HO1078.out))) (below_size bz));have n4_ := Aside0.mk (below_step bz hb);clear HO_5;clear HO_6;clear HO1078;clear HB;have HO_5 := n0_;have HO_6 := n1_;have HO1078 := n2_;have HO1082 := n3_;have HB := n4_;clear n0_ n1_ n2_ n3_ n4_;(try clear hb);(try clear hb2);(try clear hk);(try clear hi);(try clear ho0))|((with_reducible refine gate_callee (f := 21) rfl ?_);refine goesL_ (some 58) rfl rfl Try.func21 (by kernel_rfl) rfl #[.slice Ao77 t1066.length co77] rfl az ?_;(with_reducible refine (impl_OrdValid.calls kj8 _ _ t1066 true _ ?side1 ?side2 A24.out).mono ?_);(case side1 => exact Kd.Cz (Kd.R_reads' HO_6.out).2.2);(case side2 => exact (Kd.R_reads' HO_6.out).2.1);rintro e w79 ⟨rfl,hb⟩;refine ⟨_,rfl,?_⟩;have n0_ := Aside0.mk (Kd.R_below (Kd.Rz HO_5.out) hb);have n1_ := Aside0.mk (Kd.R_below (Kd.Rz HO_6.out) hb);have n2_ := Aside0.mk (Kd.R_below (Kd.Rz HO1078.out) hb);have n3_ := Aside0.mk (Kd.R_below (Kd.Rz HO1082.out) hb);have n4_ := Aside0.mk (below_step bz hb);clear HO_5;clear HO_6;clear HO1078;clear HO1082;clear HB;have HO_5 := n0_;have HO_6 := n1_;have HO1078 := n2_;have HO1082 := n3_;have HB := n4_;clear n0_ n1_ n2_ n3_ n4_;(try clear hb);(try clear hb2);(try clear hk);(try clear hi))|(go_at_call 28;(with_reducible refine (impl_OrdCompare.calls kj8 _ _ t1063 _ _ t1066 t1084 _ ?side1 ?side2 ?side3 ?side4 A26.out).mono ?_);(case side1 => exact Kd.Cz (Kd.R_reads' HO_5.out).2.2);(case side2 => exact (Kd.R_reads' HO_5.out).2.1);(case side3 => exact Kd.Cz (Kd.R_reads' HO_6.out).2.2);(case side4 => exact (Kd.R_reads' HO_6.out).2.1);rintro e w80 ⟨rfl,hb⟩;have n0_ := Aside0.mk (Kd.R_below (Kd.Rz HO_5.out) hb);have n1_ := Aside0.mk (Kd.R_below (Kd.Rz HO_6.out) hb);have n2_ := Aside0.mk (Kd.R_below (Kd.Rz HO1078.out) hb);have n3_ := Aside0.mk (Kd.R_below (Kd.Rz HO1082.out) hb);have n4_ := Aside0.mk (below_step bz hb);clear HO_5;clear HO_6;clear HO1078;clear HO1082;clear HB;have HO_5 := n0_;have HO_6 := n1_;have HO1078 := n2_;have HO1082 := n3_;have HB := n4_;clear n0_ n1_ n2_ n3_ n4_;(try clear hb);(try clear hb2);(try clear hk);(try clear hi)))
          go_ret
          exact ⟨by first|rfl|(simp [errW_none,errW_some] <;> rfl)|(simp [*,errW_none,errW_some] <;> rfl),bz⟩
        ·replace c25 := Bool.eq_false_iff.mpr c25
         subst c25
         have H1 : (some false) = some r := by rw [if_neg (show ¬ (false = true) by decide)] at H;exact H
         clear H
         have H := H1
         clear H1
         obtain rfl := Option.some.inj H
         go_wp2_with (first|((with_reducible refine gate_callee (f := 50) rfl ?_);refine goesL_ (some 51) rfl rfl Try.func50 (by kernel_rfl) rfl #[.slice A1 l1.length c1] rfl az ?_;(with_reducible refine (spec_DrawOrdNext.calls kj8 _ _ l1 t1076 _ ?side1 ?side2 A22.out).mono ?_);(case side1 => exact Kd.Cz (Kd.C_below HR1.out HB.out));(case side2 => exact HC1.out);rintro e w81 ⟨v1077,rfl,ho0,hb⟩;refine ⟨_,rfl,?_⟩;have n0_ := Aside0.mk (Kd.R_elder' (Kd.Rz HO_5.out) (Kd.R_base ho0) hb);have n1_ := Aside0.mk (Kd.R_elder' (Kd.Rz HO_6.out) (Kd.R_base ho0) hb);have n2_ := Aside0.mk (Kd.R_lower (Kd.R_new' (Kd.R_new' ho0 (Kd.R_lt (Kd.Rz HO_5.out))) (Kd.R_lt (Kd.Rz HO_6.out))) (below_size bz));have n3_ := Aside0.mk (below_step bz hb);clear HO_5;clear HO_6;clear HB;have HO_5 := n0_;have HO_6 := n1_;have HO1078 := n2_;have HB := n3_;clear n0_ n1_ n2_ n3_;(try clear hb);(try clear hb2);(try clear hk);(try clear hi);(try clear ho0);obtain ⟨Ao82,co82,eo82⟩ := Kd.R_slice HO_6.out;subst eo82)|((with_reducible refine gate_callee (f := 47) rfl ?_);refine goesL_ (some 54) rfl rfl Try.func47 (by kernel_rfl) rfl #[.slice Ao82 t1066.length co82] rfl az ?_;(with_reducible refine (impl_OrdBefore.calls kj8 _ _ t1066 t1079 t1080 _ ?side1 ?side2 A23.out).mono ?_);(case side1 => exact Kd.Cz (Kd.R_reads' HO_6.out).2.2);(case side2 => exact (Kd.R_reads' HO_6.out).2.1);rintro e w83 ⟨v1081,rfl,ho0,hb⟩;refine ⟨_,rfl,?_⟩;have n0_ := Aside0.mk (Kd.R_elder' (Kd.Rz HO_5.out) (Kd.R_base ho0) hb);have n1_ := Aside0.mk (Kd.R_elder' (Kd.Rz HO_6.out) (Kd.R_base ho0) hb);have n2_ := Aside0.mk (Kd.R_elder' (Kd.Rz HO1078.out) (Kd.R_base ho0) hb);have n3_ := Aside0.mk (Kd.R_lower (Kd.R_new' (Kd.R_new' (Kd.R_new' ho0 (Kd.R_lt (Kd.Rz HO_5.out))) (Kd.R_lt (Kd.Rz HO_6.out))) (Kd.R_lt (Kd.Rz HO1078.out))) (below_size bz));have n4_ := Aside0.mk (below_step bz hb);clear HO_5;clear HO_6;clear HO1078;clear HB;have HO_5 := n0_;have HO_6 := n1_;have HO1078 := n2_;have HO1082 := n3_;have HB := n4_;clear n0_ n1_ n2_ n3_ n4_;(try clear hb);(try clear hb2);(try clear hk);(try clear hi);(try clear ho0))|((with_reducible refine gate_callee (f := 21) rfl ?_);refine goesL_ (some 58) rfl rfl Try.func21 (by kernel_rfl) rfl #[.slice Ao82 t1066.length co82] rfl az ?_;(with_reducible refine (impl_OrdValid.calls kj8 _ _ t1066 false _ ?side1 ?side2 A24.out).mono ?_);(case side1 => exact Kd.Cz (Kd.R_reads' HO_6.out).2.2);(case side2 => exact (Kd.R_reads' HO_6.out).2.1);rintro e w84 ⟨rfl,hb⟩;refine ⟨_,rfl,?_⟩;have n0_ := Aside0.mk (Kd.R_below (Kd.Rz HO_5.out) hb);have n1_ := Aside0.mk (Kd.R_below (Kd.Rz HO_6.out) hb);have n2_ := Aside0.mk (Kd.R_below (Kd.Rz HO1078.out) hb);have n3_ := Aside0.mk (Kd.R_below (Kd.Rz HO1082.out) hb);have n4_ := Aside0.mk (below_step bz hb);clear HO_5;clear HO_6;clear HO1078;clear HO1082;clear HB;have HO_5 := n0_;have HO_6 := n1_;have HO1078 := n2_;have HO1082 := n3_;have HB := n4_;clear n0_ n1_ n2_ n3_ n4_;(try clear hb);(try clear hb2);(try clear hk);(try clear hi)))
         go_ret
         exact ⟨by first|rfl|(simp [errW_none,errW_some] <;> rfl)|(simp [*,errW_none,errW_some] <;> rfl),bz⟩
       ·replace c21 := Bool.eq_false_iff.mpr c21
        subst c21
        have H1 : (if (t1066.length : Int) = 0 then ((laws_alive.f kj8).bind fun t1075 => (some t1075)) else (some false)) = some r := by rw [if_neg (show ¬ (false = true) by decide)] at H;exact H
        clear H
        have H := H1
        clear H1
        by_cases c85 : (t1066.length : Int) = 0
        ·rw [if_pos c85] at H
         have c85b0 : ((t1066.length : Int) == 0) = true := beq_iff_eq.mpr c85
         have c85b1 : ((t1066.length : Int) != 0) = false := bne_eq_false_iff_eq.mpr c85
         clear c85
         replace H := Option.bind_eq_some_iff.mp H
         obtain ⟨t1075,A860,H⟩ := H
         replace H : (some t1075) = some r := H
         have A86 := Aside0.mk A860
         clear A860
         obtain rfl := Option.some.inj H
         obtain ⟨Ao87,co87,eo87⟩ := Kd.R_slice HO_6.out
         subst eo87
         go_wp2_with (first|(go_at_call 19;(with_reducible refine (laws_alive.calls kj8  t1075 _ A86.out).mono ?_);rintro e w88 ⟨rfl,hb⟩;have n0_ := Aside0.mk (Kd.R_below (Kd.Rz HO_5.out) hb);have n1_ := Aside0.mk (Kd.R_below (Kd.Rz HO_6.out) hb);have n2_ := Aside0.mk (below_step bz hb);clear HO_5;clear HO_6;clear HB;have HO_5 := n0_;have HO_6 := n1_;have HB := n2_;clear n0_ n1_ n2_;(try clear hb);(try clear hb2);(try clear hk);(try clear hi)))
         go_ret
         exact ⟨by first|rfl|(simp [errW_none,errW_some] <;> rfl)|(simp [*,errW_none,errW_some] <;> rfl),bz⟩
        ·rw [if_neg c85] at H
         have c85b0 : ((t1066.length : Int) == 0) = false := beq_eq_false_iff_ne.mpr c85
         have c85b1 : ((t1066.length : Int) != 0) = true := bne_iff_ne.mpr c85
         have c85b2 : ¬ (t1066 = []) := fun h_ => c85 (by rw [h_];rfl)
         obtain rfl := Option.some.inj H
         obtain ⟨Ao89,co89,eo89⟩ := Kd.R_slice HO_6.out
         subst eo89
         go_wp2
         go_ret
         exact ⟨by first|rfl|(simp [errW_none,errW_some] <;> rfl)|(simp [*,errW_none,errW_some] <;> rfl),bz⟩

/-- THE ONE PURE STATEMENT of laws_FnOrdNext: yours. -/
def laws_FnOrdNext.Pure : Prop := ∀ (l0 : List Int) (l1 : List Int),l0.length ≤ maxLen → l0.length * 1 ≤ 140737488351232 → (∀ x ∈ l0,(Lit.int .u8 x).wf = true) → l1.length ≤ maxLen → l1.length * 1 ≤ 140737488351232 → (∀ x ∈ l1,(Lit.int .u8 x).wf = true) → ∃ k,laws_FnOrdNext.f k l0 l1 = some true
theorem laws_FnOrdNext.walk (P : laws_FnOrdNext.Pure) (a0 : Option Addr) (len0 cap0 : Nat) (z0 : List Int) (a1 : Option Addr) (len1 cap1 : Nat) (z1 : List Int) (w : World) (w0 : (a0 = none ∧ len0 = 0 ∧ cap0 = 0 ∧ z0 = []) ∨ ∃ x,a0 = some x ∧ len0 ≤ cap0 ∧ cap0 ≤ maxLen ∧ z0.length = cap0 ∧ (∀ i,i < z0.length → w.cell? (x.add i) = some (.int .u8 (z0.getD i 0))) ∧ ∀ n ∈ z0,(Lit.int .u8 n).wf = true) (y0 : len0 * 1 ≤ 140737488351232) (w1 : (a1 = none ∧ len1 = 0 ∧ cap1 = 0 ∧ z1 = []) ∨ ∃ x,a1 = some x ∧ len1 ≤ cap1 ∧ cap1 ≤ maxLen ∧ z1.length = cap1 ∧ (∀ i,i < z1.length → w.cell? (x.add i) = some (.int .u8 (z1.getD i 0))) ∧ ∀ n ∈ z1,(Lit.int .u8 n).wf = true) (y1 : len1 * 1 ≤ 140737488351232) :
  Calls Try.prog 13 #[.slice a0 len0 cap0,.slice a1 len1 cap1] w fun e w' => e = .returned (.bool true) ∧ Below w.heap.size w w' := by
 obtain ⟨l0,rfl,hr0,hm0,hw0,hc0⟩ := ReadsInt.ofRowC w0
 obtain ⟨l1,rfl,hr1,hm1,hw1,hc1⟩ := ReadsInt.ofRowC w1
 obtain ⟨k,h⟩ := P l0 l1 hm0 y0 hw0 hm1 y1 hw1
 refine (laws_FnOrdNext.calls k _ _ l0 _ _ l1 true w (Kd.C_of_reads (d := (0 : Int)) (h1 := fun _ => rfl) hr0) hc0 (Kd.C_of_reads (d := (0 : Int)) (h1 := fun _ => rfl) hr1) hc1 h).mono ?_
 rintro e w' ⟨rfl,hd⟩
 exact ⟨rfl,hd⟩

end Go.Proofs.Ytninfokihgbgpaa.P
