/- The walk of one Go function that the law reaches: it comes to what the Lean function of its name tells. -/
import Derived.Test.YtninfokihgbgpaaP0
import Derived.Test.YtninfokihgbgpaaPimplOrdCompare
import Derived.Test.YtninfokihgbgpaaPimplOrdDepth
import Derived.Test.YtninfokihgbgpaaPimplOrdTower
import Derived.Test.YtninfokihgbgpaaPimplOrdValid
import Derived.Test.YtninfokihgbgpaaPlawsalive
import Derived.Test.YtninfokihgbgpaaPlawssameInts
import Derived.Test.YtninfokihgbgpaaPspecDrawOrdAdd
import Derived.Test.YtninfokihgbgpaaPspecDrawOrdTower
import Derived.Test.YtninfokihgbgpaaPspecOrdTower
namespace Go.Proofs.Ytninfokihgbgpaa.P
open Go.RowKit Go.Proofs.YtninfokihgbgpaaW.PrintWords Go.Proofs.YtninfokihgbgpaaW.PrintLast Go.Proofs.YtninfokihgbgpaaW.PrintMore
attribute [local go_sem] max2_int min2_int max_two min_two max_three min_three max_four min_four   
set_option linter.unusedVariables false
set_option linter.unusedSimpArgs false

/-! ### laws_FnOrdTower: function 9 -/
mutual
def laws_FnOrdTower.j0 : Nat → List Int → List Int → Bool → Option (Bool)
 | 0,_,_,_ => none
 | k + 1,x0,x1,x22 => if x22 = true then (some true) else ((spec_DrawOrdTower.f k x0).bind fun t867 => ((impl_OrdTower.f k t867).bind fun bt868 => ((spec_OrdTower.f k t867).bind fun bt872 => ((laws_sameInts.f k bt868.1 bt872.1).bind fun t876 => (if t876 = true then (laws_FnOrdTower.j1 k x1 t867 bt868.1 bt868.2 (bt868.2 != bt872.2)) else (laws_FnOrdTower.j1 k x1 t867 bt868.1 bt868.2 true))))))
def laws_FnOrdTower.j1 : Nat → List Int → Int → List Int → Bool → Bool → Option (Bool)
 | 0,_,_,_,_,_ => none
 | k + 1,x1,x5,x6,x7,x43 => if x43 = true then (some false) else (if x7 = true then ((impl_OrdTower.f k (wrap64 (x5 + 1))).bind fun bt879 => ((spec_DrawOrdAdd.f k x1).bind fun bt883 => ((impl_OrdDepth.f k bt883.1).bind fun t889 => ((impl_OrdValid.f k x6).bind fun t890 => (if t890 = true then ((impl_OrdDepth.f k x6).bind fun t891 => (if t891 = (wrap64 (x5 + 1)) then (if bt879.2 = true then ((impl_OrdCompare.f k x6 bt879.1).bind fun t892 => (if t892 = (-1) then (if t889 < 0 then (some true) else (if t889 > x5 then (some true) else ((impl_OrdCompare.f k bt883.1 x6).bind fun t893 => (some (t893 == (-1)))))) else (some false))) else (if t889 < 0 then (some true) else (if t889 > x5 then (some true) else ((impl_OrdCompare.f k bt883.1 x6).bind fun t894 => (some (t894 == (-1))))))) else (some false))) else (some false)))))) else (if (x6.length : Int) = 0 then (if x5 < 0 then ((laws_alive.f k).bind fun t877 => (some t877)) else (if x5 > 9 then ((laws_alive.f k).bind fun t878 => (some t878)) else (some false))) else (some false)))
end
def laws_FnOrdTower.f (k : Nat) (l0 : List Int) (l1 : List Int) : Option (Bool) := if (l0.length : Int) > 1048576 then (laws_FnOrdTower.j0 k l0 l1 true) else (laws_FnOrdTower.j0 k l0 l1 (decide ((l1.length : Int) > 1048576)))
theorem laws_FnOrdTower.mono_l : ∀ k,(∀ y0 y1 y2,LeO (laws_FnOrdTower.j0 k y0 y1 y2) (laws_FnOrdTower.j0 (k + 1) y0 y1 y2)) ∧ (∀ y0 y1 y2 y3 y4,LeO (laws_FnOrdTower.j1 k y0 y1 y2 y3 y4) (laws_FnOrdTower.j1 (k + 1) y0 y1 y2 y3 y4))
 | 0 => ⟨fun _ _ _ r h => by simp [laws_FnOrdTower.j0] at h,fun _ _ _ _ _ r h => by simp [laws_FnOrdTower.j1] at h⟩
 | k + 1 => by
  obtain ⟨ih0,ih1⟩ := laws_FnOrdTower.mono_l k
  refine ⟨?_,?_⟩
  ·intro y0 y1 y2
   unfold laws_FnOrdTower.j0
   repeat' first|(with_reducible first|exact ih0 _ _ _|exact ih1 _ _ _ _ _|exact impl_OrdTower.mono _ _|exact laws_sameInts.mono _ _ _|exact spec_DrawOrdTower.mono _ _|exact spec_OrdTower.mono _ _|exact LeO.refl _|exact LeO.none _|refine LeO.ite ?_ ?_|refine LeO.bind ?_ (fun _ => ?_))|exact ih0 _ _ _|exact ih1 _ _ _ _ _|exact impl_OrdTower.mono _ _|exact laws_sameInts.mono _ _ _|exact spec_DrawOrdTower.mono _ _|exact spec_OrdTower.mono _ _|exact LeO.none _|refine LeO.ite ?_ ?_|refine LeO.bind ?_ (fun _ => ?_)
  ·intro y0 y1 y2 y3 y4
   unfold laws_FnOrdTower.j1
   repeat' first|(with_reducible first|exact ih1 _ _ _ _ _|exact impl_OrdCompare.mono _ _ _|exact impl_OrdDepth.mono _ _|exact impl_OrdTower.mono _ _|exact impl_OrdValid.mono _ _|exact laws_alive.mono _|exact spec_DrawOrdAdd.mono _ _|exact LeO.refl _|exact LeO.none _|refine LeO.ite ?_ ?_|refine LeO.bind ?_ (fun _ => ?_))|exact ih1 _ _ _ _ _|exact impl_OrdCompare.mono _ _ _|exact impl_OrdDepth.mono _ _|exact impl_OrdTower.mono _ _|exact impl_OrdValid.mono _ _|exact laws_alive.mono _|exact spec_DrawOrdAdd.mono _ _|exact LeO.none _|refine LeO.ite ?_ ?_|refine LeO.bind ?_ (fun _ => ?_)
theorem laws_FnOrdTower.mono : ∀ a0 a1 k,LeO (laws_FnOrdTower.f k a0 a1) (laws_FnOrdTower.f (k + 1) a0 a1) := by
 intro a0 a1 k
 obtain ⟨ih0,ih1⟩ := laws_FnOrdTower.mono_l k
 unfold laws_FnOrdTower.f
 repeat' first|(with_reducible first|exact ih0 _ _ _|exact ih1 _ _ _ _ _|exact LeO.refl _|exact LeO.none _|refine LeO.ite ?_ ?_|refine LeO.bind ?_ (fun _ => ?_))|exact ih0 _ _ _|exact ih1 _ _ _ _ _|exact LeO.none _|refine LeO.ite ?_ ?_|refine LeO.bind ?_ (fun _ => ?_)
set_option maxHeartbeats 8000000 in
set_option maxRecDepth 100000 in
theorem laws_FnOrdTower.calls (k : Nat) (A0 : Option Addr) (c0 : Nat) (l0 : List Int) (A1 : Option Addr) (c1 : Nat) (l1 : List Int) (r : Bool) (w : World) (hr0 : Kd.C (Kd.int .u8) w A0 l0.length l0) (hc0 : l0.length ≤ c0) (hr1 : Kd.C (Kd.int .u8) w A1 l1.length l1) (hc1 : l1.length ≤ c1) (h : laws_FnOrdTower.f k l0 l1 = some r) :
  Calls Try.prog 9 #[.slice A0 l0.length c0,.slice A1 l1.length c1] w fun e w' => e = .returned (.bool r) ∧ Below w.heap.size w w' := by
 have HR0 := Aside0.mk hr0
 have HC0 := Aside0.mk hc0
 clear hr0 hc0
 have HR1 := Aside0.mk hr1
 have HC1 := Aside0.mk hc1
 clear hr1 hc1
 have HB := Aside0.mk (Below.refl w.heap.size w)
 have H : (if (l0.length : Int) > 1048576 then (laws_FnOrdTower.j0 k l0 l1 true) else (laws_FnOrdTower.j0 k l0 l1 (decide ((l1.length : Int) > 1048576)))) = some r := h
 clear h
 have HC3 := Aside0.mk H
 clear H
 go_enter Try.func9,Try.ntmps9
 go_upto_region 1 with (fail)
 go_cut [22] (fun v22 wc => ∃ (kq : Nat) (x22_2 : Bool),v22 = .bool x22_2 ∧ Aside0 (laws_FnOrdTower.j0 kq l0 l1 x22_2 = some r) ∧ Aside0 (kq ≤ k) ∧ Aside0 (Below w.heap.size w wc))
 case first =>
  have H := HC3.out
  clear HC3
  by_cases c4 : (l0.length : Int) > 1048576
  ·rw [if_pos c4] at H
   have c4b0 : decide (1048576 < (l0.length : Int)) = true := decide_eq_true c4
   have c4b1 : decide (1048576 < l0.length) = true := decide_eq_true (by omega)
   clear c4
   (first|rw [c4b0]|(simp only [i64_w,i32_w];rw [c4b0])|skip)
   have H' := Aside0.mk H
   clear H
   go_wp2
   go_meet
   case rel => exact ⟨_,(true),(by first|rfl|(simp;done)|(simp [*];done)),H',⟨by first|omega|exact Nat.le_refl _⟩,⟨bz⟩⟩
  ·rw [if_neg c4] at H
   have c4b0 : decide (1048576 < (l0.length : Int)) = false := decide_eq_false c4
   have c4b1 : decide (1048576 < l0.length) = false := decide_eq_false (by omega)
   clear c4
   (first|rw [c4b0]|(simp only [i64_w,i32_w];rw [c4b0])|skip)
   have H' := Aside0.mk H
   clear H
   go_wp2
   go_meet
   case rel => exact ⟨_,(decide ((l1.length : Int) > 1048576)),(by first|rfl|(simp;done)|(simp [*];done)),H',⟨by first|omega|exact Nat.le_refl _⟩,⟨bz⟩⟩
 case rest =>
  clear HC3
  try clear c1
  try clear p2
  try clear c4
  try clear c4b0
  try clear c4b1
  obtain ⟨kq,x22_2,rfl,HA,HJ2,HB⟩ := hcut
  cases kq with
  | zero => exact absurd HA.out (by simp [laws_FnOrdTower.j0])
  | succ kj2 =>
   have H := HA.out
   clear HA
   simp only [laws_FnOrdTower.j0] at H
   by_cases c5 : x22_2 = true
   ·subst c5
    have H1 : (some true) = some r := by rw [if_pos rfl] at H;exact H
    clear H
    have H := H1
    clear H1
    obtain rfl := Option.some.inj H
    go_wp2
    go_ret
    exact ⟨by first|rfl|(simp [errW_none,errW_some] <;> rfl)|(simp [*,errW_none,errW_some] <;> rfl),bz⟩
   ·replace c5 := Bool.eq_false_iff.mpr c5
    subst c5
    have H1 : ((spec_DrawOrdTower.f kj2 l0).bind fun t867 => ((impl_OrdTower.f kj2 t867).bind fun bt868 => ((spec_OrdTower.f kj2 t867).bind fun bt872 => ((laws_sameInts.f kj2 bt868.1 bt872.1).bind fun t876 => (if t876 = true then (laws_FnOrdTower.j1 kj2 l1 t867 bt868.1 bt868.2 (bt868.2 != bt872.2)) else (laws_FnOrdTower.j1 kj2 l1 t867 bt868.1 bt868.2 true)))))) = some r := by rw [if_neg (show ¬ (false = true) by decide)] at H;exact H
    clear H
    have H := H1
    clear H1
    replace H := Option.bind_eq_some_iff.mp H
    obtain ⟨t867,A60,H⟩ := H
    replace H : ((impl_OrdTower.f kj2 t867).bind fun bt868 => ((spec_OrdTower.f kj2 t867).bind fun bt872 => ((laws_sameInts.f kj2 bt868.1 bt872.1).bind fun t876 => (if t876 = true then (laws_FnOrdTower.j1 kj2 l1 t867 bt868.1 bt868.2 (bt868.2 != bt872.2)) else (laws_FnOrdTower.j1 kj2 l1 t867 bt868.1 bt868.2 true))))) = some r := H
    have A6 := Aside0.mk A60
    clear A60
    replace H := Option.bind_eq_some_iff.mp H
    obtain ⟨⟨t868,t869⟩,A70,H⟩ := H
    replace H : ((spec_OrdTower.f kj2 t867).bind fun bt872 => ((laws_sameInts.f kj2 t868 bt872.1).bind fun t876 => (if t876 = true then (laws_FnOrdTower.j1 kj2 l1 t867 t868 t869 (t869 != bt872.2)) else (laws_FnOrdTower.j1 kj2 l1 t867 t868 t869 true)))) = some r := H
    have A7 := Aside0.mk A70
    clear A70
    replace H := Option.bind_eq_some_iff.mp H
    obtain ⟨⟨t872,t873⟩,A80,H⟩ := H
    replace H : ((laws_sameInts.f kj2 t868 t872).bind fun t876 => (if t876 = true then (laws_FnOrdTower.j1 kj2 l1 t867 t868 t869 (t869 != t873)) else (laws_FnOrdTower.j1 kj2 l1 t867 t868 t869 true))) = some r := H
    have A8 := Aside0.mk A80
    clear A80
    have HC9 := Aside0.mk H
    clear H
    go_upto_region 6 with (first|((with_reducible refine gate_callee (f := 37) rfl ?_);refine goesL_ (some 24) rfl rfl Try.func37 (by kernel_rfl) rfl #[.slice A0 l0.length c0] rfl az ?_;(with_reducible refine (spec_DrawOrdTower.calls kj2 _ _ l0 t867 _ ?side1 ?side2 A6.out).mono ?_);(case side1 => exact Kd.Cz (Kd.C_below HR0.out HB.out));(case side2 => exact HC0.out);rintro e w10 ⟨rfl,hb⟩;refine ⟨_,rfl,?_⟩;have n0_ := Aside0.mk (below_step bz hb);clear HB;have HB := n0_;clear n0_;(try clear hb);(try clear hb2);(try clear hk);(try clear hi))|((with_reducible refine gate_callee (f := 38) rfl ?_);refine goesL_ (some 27) rfl rfl Try.func38 (by kernel_rfl) rfl #[.int .i64 t867] rfl az ?_;(with_reducible refine (impl_OrdTower.calls kj2 t867 t868 t869 _ A7.out).mono ?_);rintro e w11 ⟨v870,rfl,ho0,hb⟩;refine ⟨_,rfl,?_⟩;have n0_ := Aside0.mk (Kd.R_lower ho0 (below_size bz));have n1_ := Aside0.mk (below_step bz hb);clear HB;have HO871 := n0_;have HB := n1_;clear n0_ n1_;(try clear hb);(try clear hb2);(try clear hk);(try clear hi);(try clear ho0))|((with_reducible refine gate_callee (f := 39) rfl ?_);refine goesL_ (some 32) rfl rfl Try.func39 (by kernel_rfl) rfl #[.int .i64 t867] rfl az ?_;(with_reducible refine (spec_OrdTower.calls kj2 t867 t872 t873 _ A8.out).mono ?_);rintro e w12 ⟨v874,rfl,ho0,hb⟩;refine ⟨_,rfl,?_⟩;have n0_ := Aside0.mk (Kd.R_elder' (Kd.Rz HO871.out) (Kd.R_base ho0) hb);have n1_ := Aside0.mk (Kd.R_lower (Kd.R_new' ho0 (Kd.R_lt (Kd.Rz HO871.out))) (below_size bz));have n2_ := Aside0.mk (below_step bz hb);clear HO871;clear HB;have HO871 := n0_;have HO875 := n1_;have HB := n2_;clear n0_ n1_ n2_;(try clear hb);(try clear hb2);(try clear hk);(try clear hi);(try clear ho0)))
    (try simp only [Act.put,List.setIfInBounds_toArray,List.set_cons_zero,List.set_cons_succ])
    go_cut [43] (fun v43 wc => ∃ (kq : Nat) (x43_8 : Bool),v43 = .bool x43_8 ∧ Aside0 (laws_FnOrdTower.j1 kq l1 t867 t868 t869 x43_8 = some r) ∧ Aside0 (kq ≤ kj2) ∧ Aside0 (Kd.R (Kd.int .i64) 3 wc w.heap.size (fun _ => True) v870 t868) ∧ Aside0 (Below w.heap.size w wc))
    case first =>
     have H := HC9.out
     clear HC9
     replace H := Option.bind_eq_some_iff.mp H
     obtain ⟨t876,A130,H⟩ := H
     replace H : (if t876 = true then (laws_FnOrdTower.j1 kj2 l1 t867 t868 t869 (t869 != t873)) else (laws_FnOrdTower.j1 kj2 l1 t867 t868 t869 true)) = some r := H
     have A13 := Aside0.mk A130
     clear A130
     by_cases c14 : t876 = true
     ·subst c14
      have H1 : (laws_FnOrdTower.j1 kj2 l1 t867 t868 t869 (t869 != t873)) = some r := by rw [if_pos rfl] at H;exact H
      clear H
      have H := H1
      clear H1
      have H' := Aside0.mk H
      clear H
      obtain ⟨Ao15,co15,eo15⟩ := Kd.R_slice HO871.out
      subst eo15
      obtain ⟨Ao16,co16,eo16⟩ := Kd.R_slice HO875.out
      subst eo16
      go_wp2_with (first|((with_reducible refine gate_callee (f := 17) rfl ?_);refine goesL_ (some 37) rfl rfl Try.func17 (by kernel_rfl) rfl #[.slice Ao15 t868.length co15,.slice Ao16 t872.length co16] rfl az ?_;(with_reducible refine (laws_sameInts.calls kj2 _ _ t868 _ _ t872 true _ ?side1 ?side2 ?side3 ?side4 A13.out).mono ?_);(case side1 => exact Kd.Cz (Kd.R_reads' HO871.out).2.2);(case side2 => exact (Kd.R_reads' HO871.out).2.1);(case side3 => exact Kd.Cz (Kd.R_reads' HO875.out).2.2);(case side4 => exact (Kd.R_reads' HO875.out).2.1);rintro e w' ⟨rfl,⟨nd,rfl⟩⟩;refine ⟨_,rfl,?_⟩))
      go_meet
      case rel => exact ⟨_,((t869 != t873)),(by first|rfl|(simp;done)|(simp [*];done)),H',⟨by have := HJ2.out;first|omega|exact Nat.le_refl _⟩,⟨by (with_reducible repeat (first|apply Kd.R_alloc|apply Kd.R_drewN|apply Kd.R_drew));exact Kd.R_mono HO871.out (fun _ hk => trivial)⟩,⟨bz⟩⟩
     ·replace c14 := Bool.eq_false_iff.mpr c14
      subst c14
      have H1 : (laws_FnOrdTower.j1 kj2 l1 t867 t868 t869 true) = some r := by rw [if_neg (show ¬ (false = true) by decide)] at H;exact H
      clear H
      have H := H1
      clear H1
      have H' := Aside0.mk H
      clear H
      obtain ⟨Ao17,co17,eo17⟩ := Kd.R_slice HO871.out
      subst eo17
      obtain ⟨Ao18,co18,eo18⟩ := Kd.R_slice HO875.out
      subst eo18
      go_wp2_with (first|((with_reducible refine gate_callee (f := 17) rfl ?_);refine goesL_ (some 37) rfl rfl Try.func17 (by kernel_rfl) rfl #[.slice Ao17 t868.length co17,.slice Ao18 t872.length co18] rfl az ?_;(with_reducible refine (laws_sameInts.calls kj2 _ _ t868 _ _ t872 false _ ?side1 ?side2 ?side3 ?side4 A13.out).mono ?_);(case side1 => exact Kd.Cz (Kd.R_reads' HO871.out).2.2);(case side2 => exact (Kd.R_reads' HO871.out).2.1);(case side3 => exact Kd.Cz (Kd.R_reads' HO875.out).2.2);(case side4 => exact (Kd.R_reads' HO875.out).2.1);rintro e w' ⟨rfl,⟨nd,rfl⟩⟩;refine ⟨_,rfl,?_⟩))
      go_meet
      case rel => exact ⟨_,(true),(by first|rfl|(simp;done)|(simp [*];done)),H',⟨by have := HJ2.out;first|omega|exact Nat.le_refl _⟩,⟨by (with_reducible repeat (first|apply Kd.R_alloc|apply Kd.R_drewN|apply Kd.R_drew));exact Kd.R_mono HO871.out (fun _ hk => trivial)⟩,⟨bz⟩⟩
    case rest =>
     clear HC9
     try clear c1
     try clear p2
     try clear c3
     try clear c4
     try clear c4b0
     try clear c4b1
     try clear c5
     try clear c9
     try clear c14
     try clear c17
     try clear p2
     obtain ⟨kq,x43_8,rfl,HA,HJ8,HO_6,HB⟩ := hcut
     cases kq with
     | zero => exact absurd HA.out (by simp [laws_FnOrdTower.j1])
     | succ kj8 =>
      have H := HA.out
      clear HA
      simp only [laws_FnOrdTower.j1] at H
      by_cases c19 : x43_8 = true
      ·subst c19
       have H1 : (some false) = some r := by rw [if_pos rfl] at H;exact H
       clear H
       have H := H1
       clear H1
       obtain rfl := Option.some.inj H
       go_wp2
       go_ret
       exact ⟨by first|rfl|(simp [errW_none,errW_some] <;> rfl)|(simp [*,errW_none,errW_some] <;> rfl),bz⟩
      ·replace c19 := Bool.eq_false_iff.mpr c19
       subst c19
       have H1 : (if t869 = true then ((impl_OrdTower.f kj8 (wrap64 (t867 + 1))).bind fun bt879 => ((spec_DrawOrdAdd.f kj8 l1).bind fun bt883 => ((impl_OrdDepth.f kj8 bt883.1).bind fun t889 => ((impl_OrdValid.f kj8 t868).bind fun t890 => (if t890 = true then ((impl_OrdDepth.f kj8 t868).bind fun t891 => (if t891 = (wrap64 (t867 + 1)) then (if bt879.2 = true then ((impl_OrdCompare.f kj8 t868 bt879.1).bind fun t892 => (if t892 = (-1) then (if t889 < 0 then (some true) else (if t889 > t867 then (some true) else ((impl_OrdCompare.f kj8 bt883.1 t868).bind fun t893 => (some (t893 == (-1)))))) else (some false))) else (if t889 < 0 then (some true) else (if t889 > t867 then (some true) else ((impl_OrdCompare.f kj8 bt883.1 t868).bind fun t894 => (some (t894 == (-1))))))) else (some false))) else (some false)))))) else (if (t868.length : Int) = 0 then (if t867 < 0 then ((laws_alive.f kj8).bind fun t877 => (some t877)) else (if t867 > 9 then ((laws_alive.f kj8).bind fun t878 => (some t878)) else (some false))) else (some false))) = some r := by rw [if_neg (show ¬ (false = true) by decide)] at H;exact H
       clear H
       have H := H1
       clear H1
       by_cases c20 : t869 = true
       ·subst c20
        have H1 : ((impl_OrdTower.f kj8 (wrap64 (t867 + 1))).bind fun bt879 => ((spec_DrawOrdAdd.f kj8 l1).bind fun bt883 => ((impl_OrdDepth.f kj8 bt883.1).bind fun t889 => ((impl_OrdValid.f kj8 t868).bind fun t890 => (if t890 = true then ((impl_OrdDepth.f kj8 t868).bind fun t891 => (if t891 = (wrap64 (t867 + 1)) then (if bt879.2 = true then ((impl_OrdCompare.f kj8 t868 bt879.1).bind fun t892 => (if t892 = (-1) then (if t889 < 0 then (some true) else (if t889 > t867 then (some true) else ((impl_OrdCompare.f kj8 bt883.1 t868).bind fun t893 => (some (t893 == (-1)))))) else (some false))) else (if t889 < 0 then (some true) else (if t889 > t867 then (some true) else ((impl_OrdCompare.f kj8 bt883.1 t868).bind fun t894 => (some (t894 == (-1))))))) else (some false))) else (some false)))))) = some r := by rw [if_pos rfl] at H;exact H
        clear H
        have H := H1
        clear H1
        replace H := Option.bind_eq_some_iff.mp H
        obtain ⟨⟨t879,t880⟩,A210,H⟩ := H
        replace H : ((spec_DrawOrdAdd.f kj8 l1).bind fun bt883 => ((impl_OrdDepth.f kj8 bt883.1).bind fun t889 => ((impl_OrdValid.f kj8 t868).bind fun t890 => (if t890 = true then ((impl_OrdDepth.f kj8 t868).bind fun t891 => (if t891 = (wrap64 (t867 + 1)) then (if t880 = true then ((impl_OrdCompare.f kj8 t868 t879).bind fun t892 => (if t892 = (-1) then (if t889 < 0 then (some true) else (if t889 > t867 then (some true) else ((impl_OrdCompare.f kj8 bt883.1 t868).bind fun t893 => (some (t893 == (-1)))))) else (some false))) else (if t889 < 0 then (some true) else (if t889 > t867 then (some true) else ((impl_OrdCompare.f kj8 bt883.1 t868).bind fun t894 => (some (t894 == (-1))))))) else (some false))) else (some false))))) = some r := H
        have A21 := Aside0.mk A210
        clear A210
        replace H := Option.bind_eq_some_iff.mp H
        obtain ⟨⟨t883,t884⟩,A220,H⟩ := H
        replace H : ((impl_OrdDepth.f kj8 t883).bind fun t889 => ((impl_OrdValid.f kj8 t868).bind fun t890 => (if t890 = true then ((impl_OrdDepth.f kj8 t868).bind fun t891 => (if t891 = (wrap64 (t867 + 1)) then (if t880 = true then ((impl_OrdCompare.f kj8 t868 t879).bind fun t892 => (if t892 = (-1) then (if t889 < 0 then (some true) else (if t889 > t867 then (some true) else ((impl_OrdCompare.f kj8 t883 t868).bind fun t893 => (some (t893 == (-1)))))) else (some false))) else (if t889 < 0 then (some true) else (if t889 > t867 then (some true) else ((impl_OrdCompare.f kj8 t883 t868).bind fun t894 => (some (t894 == (-1))))))) else (some false))) else (some false)))) = some r := H
        have A22 := Aside0.mk A220
        clear A220
        replace H := Option.bind_eq_some_iff.mp H
        obtain ⟨t889,A230,H⟩ := H
        replace H : ((impl_OrdValid.f kj8 t868).bind fun t890 => (if t890 = true then ((impl_OrdDepth.f kj8 t868).bind fun t891 => (if t891 = (wrap64 (t867 + 1)) then (if t880 = true then ((impl_OrdCompare.f kj8 t868 t879).bind fun t892 => (if t892 = (-1) then (if t889 < 0 then (some true) else (if t889 > t867 then (some true) else ((impl_OrdCompare.f kj8 t883 t868).bind fun t893 => (some (t893 == (-1)))))) else (some false))) else (if t889 < 0 then (some true) else (if t889 > t867 then (some true) else ((impl_OrdCompare.f kj8 t883 t868).bind fun t894 => (some (t894 == (-1))))))) else (some false))) else (some false))) = some r := H
        have A23 := Aside0.mk A230
        clear A230
        replace H := Option.bind_eq_some_iff.mp H
        obtain ⟨t890,A240,H⟩ := H
        replace H : (if t890 = true then ((impl_OrdDepth.f kj8 t868).bind fun t891 => (if t891 = (wrap64 (t867 + 1)) then (if t880 = true then ((impl_OrdCompare.f kj8 t868 t879).bind fun t892 => (if t892 = (-1) then (if t889 < 0 then (some true) else (if t889 > t867 then (some true) else ((impl_OrdCompare.f kj8 t883 t868).bind fun t893 => (some (t893 == (-1)))))) else (some false))) else (if t889 < 0 then (some true) else (if t889 > t867 then (some true) else ((impl_OrdCompare.f kj8 t883 t868).bind fun t894 => (some (t894 == (-1))))))) else (some false))) else (some false)) = some r := H
        have A24 := Aside0.mk A240
        clear A240
        by_cases c25 : t890 = true
        ·subst c25
         have H1 : ((impl_OrdDepth.f kj8 t868).bind fun t891 => (if t891 = (wrap64 (t867 + 1)) then (if t880 = true then ((impl_OrdCompare.f kj8 t868 t879).bind fun t892 => (if t892 = (-1) then (if t889 < 0 then (some true) else (if t889 > t867 then (some true) else ((impl_OrdCompare.f kj8 t883 t868).bind fun t893 => (some (t893 == (-1)))))) else (some false))) else (if t889 < 0 then (some true) else (if t889 > t867 then (some true) else ((impl_OrdCompare.f kj8 t883 t868).bind fun t894 => (some (t894 == (-1))))))) else (some false))) = some r := by rw [if_pos rfl] at H;exact H
         clear H
         have H := H1
         clear H1
         replace H := Option.bind_eq_some_iff.mp H
         obtain ⟨t891,A260,H⟩ := H
         replace H : (if t891 = (wrap64 (t867 + 1)) then (if t880 = true then ((impl_OrdCompare.f kj8 t868 t879).bind fun t892 => (if t892 = (-1) then (if t889 < 0 then (some true) else (if t889 > t867 then (some true) else ((impl_OrdCompare.f kj8 t883 t868).bind fun t893 => (some (t893 == (-1)))))) else (some false))) else (if t889 < 0 then (some true) else (if t889 > t867 then (some true) else ((impl_OrdCompare.f kj8 t883 t868).bind fun t894 => (some (t894 == (-1))))))) else (some false)) = some r := H
         have A26 := Aside0.mk A260
         clear A260
         by_cases c27 : t891 = (wrap64 (t867 + 1))
         ·rw [if_pos c27] at H
          have c27b0 : (t891 == (wrap64 (t867 + 1))) = true := beq_iff_eq.mpr c27
          have c27b1 : (t891 != (wrap64 (t867 + 1))) = false := bne_eq_false_iff_eq.mpr c27
          clear c27
          by_cases c28 : t880 = true
          ·subst c28
           have H1 : ((impl_OrdCompare.f kj8 t868 t879).bind fun t892 => (if t892 = (-1) then (if t889 < 0 then (some true) else (if t889 > t867 then (some true) else ((impl_OrdCompare.f kj8 t883 t868).bind fun t893 => (some (t893 == (-1)))))) else (some false))) = some r := by rw [if_pos rfl] at H;exact H
           clear H
           have H := H1
           clear H1
           replace H := Option.bind_eq_some_iff.mp H
           obtain ⟨t892,A290,H⟩ := H
           replace H : (if t892 = (-1) then (if t889 < 0 then (some true) else (if t889 > t867 then (some true) else ((impl_OrdCompare.f kj8 t883 t868).bind fun t893 => (some (t893 == (-1)))))) else (some false)) = some r := H
           have A29 := Aside0.mk A290
           clear A290
           by_cases c30 : t892 = (-1)
           ·rw [if_pos c30] at H
            have c30b0 : (t892 == (-1)) = true := beq_iff_eq.mpr c30
            have c30b1 : (t892 != (-1)) = false := bne_eq_false_iff_eq.mpr c30
            clear c30
            by_cases c31 : t889 < 0
            ·rw [if_pos c31] at H
             have c31b0 : decide (t889 < 0) = true := decide_eq_true c31
             clear c31
             obtain rfl := Option.some.inj H
             go_wp2_with (first|((with_reducible refine gate_callee (f := 38) rfl ?_);refine goesL_ (some 63) rfl rfl Try.func38 (by kernel_rfl) rfl #[.int .i64 (wrap64 (t867 + 1))] rfl az ?_;(with_reducible refine (impl_OrdTower.calls kj8 (wrap64 (t867 + 1)) t879 true _ A21.out).mono ?_);rintro e w32 ⟨v881,rfl,ho0,hb⟩;refine ⟨_,rfl,?_⟩;have n0_ := Aside0.mk (Kd.R_elder' (Kd.Rz HO_6.out) (Kd.R_base ho0) hb);have n1_ := Aside0.mk (Kd.R_lower (Kd.R_new' ho0 (Kd.R_lt (Kd.Rz HO_6.out))) (below_size bz));have n2_ := Aside0.mk (below_step bz hb);clear HO_6;clear HB;have HO_6 := n0_;have HO882 := n1_;have HB := n2_;clear n0_ n1_ n2_;(try clear hb);(try clear hb2);(try clear hk);(try clear hi);(try clear ho0))|((with_reducible refine gate_callee (f := 40) rfl ?_);refine goesL_ (some 68) rfl rfl Try.func40 (by kernel_rfl) rfl #[.slice A1 l1.length c1] rfl az ?_;(with_reducible refine (spec_DrawOrdAdd.calls kj8 _ _ l1 t883 t884 _ ?side1 ?side2 A22.out).mono ?_);(case side1 => exact Kd.Cz (Kd.C_below HR1.out HB.out));(case side2 => exact HC1.out);rintro e w33 ⟨v885,v887,rfl,ho0,ho1,hb⟩;refine ⟨_,rfl,?_⟩;have n0_ := Aside0.mk (Kd.R_mono (Kd.R_told (Kd.R_told (Kd.R_old (Kd.Rz HO_6.out) hb) (Kd.R_base ho0)) (Kd.R_base ho1)) (fun _ h_ => h_.1));have n1_ := Aside0.mk (Kd.R_mono (Kd.R_told (Kd.R_told (Kd.R_old (Kd.Rz HO882.out) hb) (Kd.R_base ho0)) (Kd.R_base ho1)) (fun _ h_ => h_.1));have n2_ := Aside0.mk (Kd.R_lower (Kd.R_new' (Kd.R_new' ho0 (Kd.R_lt (Kd.Rz HO_6.out))) (Kd.R_lt (Kd.Rz HO882.out))) (below_size bz));have n3_ := Aside0.mk (Kd.R_lower (Kd.R_new' (Kd.R_new' ho1 (Kd.R_lt (Kd.Rz HO_6.out))) (Kd.R_lt (Kd.Rz HO882.out))) (below_size bz));have n4_ := Aside0.mk (below_step bz hb);clear HO_6;clear HO882;clear HB;have HO_6 := n0_;have HO882 := n1_;have HO886 := n2_;have HO888 := n3_;have HB := n4_;clear n0_ n1_ n2_ n3_ n4_;(try clear hb);(try clear hb2);(try clear hk);(try clear hi);(try clear ho0);(try clear ho1);obtain ⟨Ao34,co34,eo34⟩ := Kd.R_slice HO886.out;subst eo34)|((with_reducible refine gate_callee (f := 26) rfl ?_);refine goesL_ (some 72) rfl rfl Try.func26 (by kernel_rfl) rfl #[.slice Ao34 t883.length co34] rfl az ?_;(with_reducible refine (impl_OrdDepth.calls kj8 _ _ t883 t889 _ ?side1 ?side2 A23.out).mono ?_);(case side1 => exact Kd.Cz (Kd.R_reads' HO886.out).2.2);(case side2 => exact (Kd.R_reads' HO886.out).2.1);rintro e w35 ⟨rfl,hb⟩;refine ⟨_,rfl,?_⟩;have n0_ := Aside0.mk (Kd.R_below (Kd.Rz HO_6.out) hb);have n1_ := Aside0.mk (Kd.R_below (Kd.Rz HO882.out) hb);have n2_ := Aside0.mk (Kd.R_below (Kd.Rz HO886.out) hb);have n3_ := Aside0.mk (Kd.R_below (Kd.Rz HO888.out) hb);have n4_ := Aside0.mk (below_step bz hb);clear HO_6;clear HO882;clear HO886;clear HO888;clear HB;have HO_6 := n0_;have HO882 := n1_;have HO886 := n2_;have HO888 := n3_;have HB := n4_;clear n0_ n1_ n2_ n3_ n4_;(try clear hb);(try clear hb2);(try clear hk);(try clear hi);obtain ⟨Ao36,co36,eo36⟩ := Kd.R_slice HO_6.out;subst eo36)|((with_reducible refine gate_callee (f := 21) rfl ?_);refine goesL_ (some 74) rfl rfl Try.func21 (by kernel_rfl) rfl #[.slice Ao36 t868.length co36] rfl az ?_;(with_reducible refine (impl_OrdValid.calls kj8 _ _ t868 true _ ?side1 ?side2 A24.out).mono ?_);(case side1 => exact Kd.Cz (Kd.R_reads' HO_6.out).2.2);(case side2 => exact (Kd.R_reads' HO_6.out).2.1);rintro e w37 ⟨rfl,hb⟩;refine ⟨_,rfl,?_⟩;have n0_ := Aside0.mk (Kd.R_below (Kd.Rz HO_6.out) hb);have n1_ := Aside0.mk (Kd.R_below (Kd.Rz HO882.out) hb);have n2_ := Aside0.mk (Kd.R_below (Kd.Rz HO886.out) hb);have n3_ := Aside0.mk (Kd.R_below (Kd.Rz HO888.out) hb);have n4_ := Aside0.mk (below_step bz hb);clear HO_6;clear HO882;clear HO886;clear HO888;clear HB;have HO_6 := n0_;have HO882 := n1_;have HO886 := n2_;have HO888 := n3_;have HB := n4_;clear n0_ n1_ n2_ n3_ n4_;(try clear hb);(try clear hb2);(try clear hk);(try clear hi))|(go_at_call 26;(with_reducible refine (impl_OrdDepth.calls kj8 _ _ t868 t891 _ ?side1 ?side2 A26.out).mono ?_);(case side1 => exact Kd.Cz (Kd.R_reads' HO_6.out).2.2);(case side2 => exact (Kd.R_reads' HO_6.out).2.1);rintro e w38 ⟨rfl,hb⟩;have n0_ := Aside0.mk (Kd.R_below (Kd.Rz HO_6.out) hb);have n1_ := Aside0.mk (Kd.R_below (Kd.Rz HO882.out) hb);have n2_ := Aside0.mk (Kd.R_below (Kd.Rz HO886.out) hb);have n3_ := Aside0.mk (Kd.R_below (Kd.Rz HO888.out) hb);have n4_ := Aside0.mk (below_step bz hb);clear HO_6;clear HO882;clear HO886;clear HO888;clear HB;have HO_6 := n0_;have HO882 := n1_;have HO886 := n2_;have HO888 := n3_;have HB := n4_;clear n0_ n1_ n2_ n3_ n4_;(try clear hb);(try clear hb2);(try clear hk);(try clear hi);obtain ⟨Ao39,co39,eo39⟩ := Kd.R_slice HO882.out;subst eo39)|(go_at_call 28;(with_reducible refine (impl_OrdCompare.calls kj8 _ _ t868 _ _ t879 t892 _ ?side1 ?side2 ?side3 ?side4 A29.out).mono ?_);(case side1 => exact Kd.Cz (Kd.R_reads' HO_6.out).2.2);(case side2 => exact (Kd.R_reads' HO_6.out).2.1);(case side3 => exact Kd.Cz (Kd.R_reads' HO882.out).2.2);(case side4 => exact (Kd.R_reads' HO882.out).2.1);rintro e w40 ⟨rfl,hb⟩;have n0_ := Aside0.mk (Kd.R_below (Kd.Rz HO_6.out) hb);have n1_ := Aside0.mk (Kd.R_below (Kd.Rz HO882.out) hb);have n2_ := Aside0.mk (Kd.R_below (Kd.Rz HO886.out) hb);have n3_ := Aside0.mk (Kd.R_below (Kd.Rz HO888.out) hb);have n4_ := Aside0.mk (below_step bz hb);clear HO_6;clear HO882;clear HO886;clear HO888;clear HB;have HO_6 := n0_;have HO882 := n1_;have HO886 := n2_;have HO888 := n3_;have HB := n4_;clear n0_ n1_ n2_ n3_ n4_;(try clear hb);(try clear hb2);(try clear hk);(try clear hi)))
             go_ret
             exact ⟨by first|rfl|(simp [errW_none,errW_some] <;> rfl)|(simp [*,errW_none,errW_some] <;> rfl),bz⟩
            ·rw [if_neg c31] at H
             have c31b0 : decide (t889 < 0) = false := decide_eq_false c31
             clear c31
             by_cases c41 : t889 > t867
             ·rw [if_pos c41] at H
              have c41b0 : decide (t867 < t889) = true := decide_eq_true c41
              clear c41
              obtain rfl := Option.some.inj H
              go_wp2_with (first|((with_reducible refine gate_callee (f := 38) rfl ?_);refine goesL_ (some 63) rfl rfl Try.func38 (by kernel_rfl) rfl #[.int .i64 (wrap64 (t867 + 1))] rfl az ?_;(with_reducible refine (impl_OrdTower.calls kj8 (wrap64 (t867 + 1)) t879 true _ A21.out).mono ?_);rintro e w42 ⟨v881,rfl,ho0,hb⟩;refine ⟨_,rfl,?_⟩;have n0_ := Aside0.mk (Kd.R_elder' (Kd.Rz HO_6.out) (Kd.R_base ho0) hb);have n1_ := Aside0.mk (Kd.R_lower (Kd.R_new' ho0 (Kd.R_lt (Kd.Rz HO_6.out))) (below_size bz));have n2_ := Aside0.mk (below_step bz hb);clear HO_6;clear HB;have HO_6 := n0_;have HO882 := n1_;have HB := n2_;clear n0_ n1_ n2_;(try clear hb);(try clear hb2);(try clear hk);(try clear hi);(try clear ho0))|((with_reducible refine gate_callee (f := 40) rfl ?_);refine goesL_ (some 68) rfl rfl Try.func40 (by kernel_rfl) rfl #[.slice A1 l1.length c1] rfl az ?_;(with_reducible refine (spec_DrawOrdAdd.calls kj8 _ _ l1 t883 t884 _ ?side1 ?side2 A22.out).mono ?_);(case side1 => exact Kd.Cz (Kd.C_below HR1.out HB.out));(case side2 => exact HC1.out);rintro e w43 ⟨v885,v887,rfl,ho0,ho1,hb⟩;refine ⟨_,rfl,?_⟩;have n0_ := Aside0.mk (Kd.R_mono (Kd.R_told (Kd.R_told (Kd.R_old (Kd.Rz HO_6.out) hb) (Kd.R_base ho0)) (Kd.R_base ho1)) (fun _ h_ => h_.1));have n1_ := Aside0.mk (Kd.R_mono (Kd.R_told (Kd.R_told (Kd.R_old (Kd.Rz HO882.out) hb) (Kd.R_base ho0)) (Kd.R_base ho1)) (fun _ h_ => h_.1));have n2_ := Aside0.mk (Kd.R_lower (Kd.R_new' (Kd.R_new' ho0 (Kd.R_lt (Kd.Rz HO_6.out))) (Kd.R_lt (Kd.Rz HO882.out))) (below_size bz));have n3_ := Aside0.mk (Kd.R_lower (Kd.R_new' (Kd.R_new' ho1 (Kd.R_lt (Kd.Rz HO_6.out))) (Kd.R_lt (Kd.Rz HO882.out))) (below_size bz));have n4_ := Aside0.mk (below_step bz hb);clear HO_6;clear HO882;clear HB;have HO_6 := n0_;have HO882 := n1_;have HO886 := n2_;have HO888 := n3_;have HB := n4_;clear n0_ n1_ n2_ n3_ n4_;(try clear hb);(try clear hb2);(try clear hk);(try clear hi);(try clear ho0);(try clear ho1);obtain ⟨Ao44,co44,eo44⟩ := Kd.R_slice HO886.out;subst eo44)|((with_reducible refine gate_callee (f := 26) rfl ?_);refine goesL_ (some 72) rfl rfl Try.func26 (by kernel_rfl) rfl #[.slice Ao44 t883.length co44] rfl az ?_;(with_reducible refine (impl_OrdDepth.calls kj8 _ _ t883 t889 _ ?side1 ?side2 A23.out).mono ?_);(case side1 => exact Kd.Cz (Kd.R_reads' HO886.out).2.2);(case side2 => exact (Kd.R_reads' HO886.out).2.1);rintro e w45 ⟨rfl,hb⟩;refine ⟨_,rfl,?_⟩;have n0_ := Aside0.mk (Kd.R_below (Kd.Rz HO_6.out) hb);have n1_ := Aside0.mk (Kd.R_below (Kd.Rz HO882.out) hb);have n2_ := Aside0.mk (Kd.R_below (Kd.Rz HO886.out) hb);have n3_ := Aside0.mk (Kd.R_below (Kd.Rz HO888.out) hb);have n4_ := Aside0.mk (below_step bz hb);clear HO_6;clear HO882;clear HO886;clear HO888;clear HB;have HO_6 := n0_;have HO882 := n1_;have HO886 := n2_;have HO888 := n3_;have HB := n4_;clear n0_ n1_ n2_ n3_ n4_;(try clear hb);(try clear hb2);(try clear hk);(try clear hi);obtain ⟨Ao46,co46,eo46⟩ := Kd.R_slice HO_6.out;subst eo46)|((with_reducible refine gate_callee (f := 21) rfl ?_);refine goesL_ (some 74) rfl rfl Try.func21 (by kernel_rfl) rfl #[.slice Ao46 t868.length co46] rfl az ?_;(with_reducible refine (impl_OrdValid.calls kj8 _ _ t868 true _ ?side1 ?side2 A24.out).mono ?_);(case side1 => exact Kd.Cz (Kd.R_reads' HO_6.out).2.2);(case side2 => exact (Kd.R_reads' HO_6.out).2.1);rintro e w47 ⟨rfl,hb⟩;refine ⟨_,rfl,?_⟩;have n0_ := Aside0.mk (Kd.R_below (Kd.Rz HO_6.out) hb);have n1_ := Aside0.mk (Kd.R_below (Kd.Rz HO882.out) hb);have n2_ := Aside0.mk (Kd.R_below (Kd.Rz HO886.out) hb);have n3_ := Aside0.mk (Kd.R_below (Kd.Rz HO888.out) hb);have n4_ := Aside0.mk (below_step bz hb);clear HO_6;clear HO882;clear HO886;clear HO888;clear HB;have HO_6 := n0_;have HO882 := n1_;have HO886 := n2_;have HO888 := n3_;have HB := n4_;clear n0_ n1_ n2_ n3_ n4_;(try clear hb);(try clear hb2);(try clear hk);(try clear hi))|(go_at_call 26;(with_reducible refine (impl_OrdDepth.calls kj8 _ _ t868 t891 _ ?side1 ?side2 A26.out).mono ?_);(case side1 => exact Kd.Cz (Kd.R_reads' HO_6.out).2.2);(case side2 => exact (Kd.R_reads' HO_6.out).2.1);rintro e w48 ⟨rfl,hb⟩;have n0_ := Aside0.mk (Kd.R_below (Kd.Rz HO_6.out) hb);have n1_ := Aside0.mk (Kd.R_below (Kd.Rz HO882.out) hb);have n2_ := Aside0.mk (Kd.R_below (Kd.Rz HO886.out) hb);have n3_ := Aside0.mk (Kd.R_below (Kd.Rz HO888.out) hb);have n4_ := Aside0.mk (below_step bz hb);clear HO_6;clear HO882;clear HO886;clear HO888;clear HB;have HO_6 := n0_;have HO882 := n1_;have HO886 := n2_;have HO888 := n3_;have HB := n4_;clear n0_ n1_ n2_ n3_ n4_;(try clear hb);(try clear hb2);(try clear hk);(try clear hi);obtain ⟨Ao49,co49,eo49⟩ := Kd.R_slice HO882.out;subst eo49)|(go_at_call 28;(with_reducible refine (impl_OrdCompare.calls kj8 _ _ t868 _ _ t879 t892 _ ?side1 ?side2 ?side3 ?side4 A29.out).mono ?_);(case side1 => exact Kd.Cz (Kd.R_reads' HO_6.out).2.2);(case side2 => exact (Kd.R_reads' HO_6.out).2.1);(case side3 => exact Kd.Cz (Kd.R_reads' HO882.out).2.2);(case side4 => exact (Kd.R_reads' HO882.out).2.1);rintro e w50 ⟨rfl,hb⟩;have n0_ := Aside0.mk (Kd.R_below (Kd.Rz HO_6.out) hb);have n1_ := Aside0.mk (Kd.R_below (Kd.Rz HO882.out) hb);have n2_ := Aside0.mk (Kd.R_below (Kd.Rz HO886.out) hb);have n3_ := Aside0.mk (Kd.R_below (Kd.Rz HO888.out) hb);have n4_ := Aside0.mk (below_step bz hb);clear HO_6;clear HO882;clear HO886;clear HO888;clear HB;have HO_6 := n0_;have HO882 := n1_;have HO886 := n2_;have HO888 := n3_;have HB := n4_;clear n0_ n1_ n2_ n3_ n4_;(try clear hb);(try clear hb2);(try clear hk);(try clear hi)))
              go_ret
              exact ⟨by first|rfl|(simp [errW_none,errW_some] <;> rfl)|(simp [*,errW_none,errW_some] <;> rfl),bz⟩
             ·rw [if_neg c41] at H
              have c41b0 : decide (t867 < t889) = false := decide_eq_false c41
              clear c41
              replace H := Option.bind_eq_some_iff.mp H
              obtain ⟨t893,A510,H⟩ := H
              replace H : (some (t893 == (-1))) = some r := H
              have A51 := Aside0.mk A510
              clear A510
              obtain rfl := Option.some.inj H
              go_wp2_with (first|((with_reducible refine gate_callee (f := 38) rfl ?_);refine goesL_ (some 63) rfl rfl Try.func38 (by kernel_rfl) rfl #[.int .i64 (wrap64 (t867 + 1))] rfl az ?_;(with_reducible refine (impl_OrdTower.calls kj8 (wrap64 (t867 + 1)) t879 true _ A21.out).mono ?_);rintro e w52 ⟨v881,rfl,ho0,hb⟩;refine ⟨_,rfl,?_⟩;have n0_ := Aside0.mk (Kd.R_elder' (Kd.Rz HO_6.out) (Kd.R_base ho0) hb);have n1_ := Aside0.mk (Kd.R_lower (Kd.R_new' ho0 (Kd.R_lt (Kd.Rz HO_6.out))) (below_size bz));have n2_ := Aside0.mk (below_step bz hb);clear HO_6;clear HB;have HO_6 := n0_;have HO882 := n1_;have HB := n2_;clear n0_ n1_ n2_;(try clear hb);(try clear hb2);(try clear hk);(try clear hi);(try clear ho0))|((with_reducible refine gate_callee (f := 40) rfl ?_);refine goesL_ (some 68) rfl rfl Try.func40 (by kernel_rfl) rfl #[.slice A1 l1.length c1] rfl az ?_;(with_reducible refine (spec_DrawOrdAdd.calls kj8 _ _ l1 t883 t884 _ ?side1 ?side2 A22.out).mono ?_);(case side1 => exact Kd.Cz (Kd.C_below HR1.out HB.out));(case side2 => exact HC1.out);rintro e w53 ⟨v885,v887,rfl,ho0,ho1,hb⟩;refine ⟨_,rfl,?_⟩;have n0_ := Aside0.mk (Kd.R_mono (Kd.R_told (Kd.R_told (Kd.R_old (Kd.Rz HO_6.out) hb) (Kd.R_base ho0)) (Kd.R_base ho1)) (fun _ h_ => h_.1));have n1_ := Aside0.mk (Kd.R_mono (Kd.R_told (Kd.R_told (Kd.R_old (Kd.Rz HO882.out) hb) (Kd.R_base ho0)) (Kd.R_base ho1)) (fun _ h_ => h_.1));have n2_ := Aside0.mk (Kd.R_lower (Kd.R_new' (Kd.R_new' ho0 (Kd.R_lt (Kd.Rz HO_6.out))) (Kd.R_lt (Kd.Rz HO882.out))) (below_size bz));have n3_ := Aside0.mk (Kd.R_lower (Kd.R_new' (Kd.R_new' ho1 (Kd.R_lt (Kd.Rz HO_6.out))) (Kd.R_lt (Kd.Rz HO882.out))) (below_size bz));have n4_ := Aside0.mk (below_step bz hb);clear HO_6;clear HO882;clear HB;have HO_6 := n0_;have HO882 := n1_;have HO886 := n2_;have HO888 := n3_;have HB := n4_;clear n0_ n1_ n2_ n3_ n4_;(try clear hb);(try clear hb2);(try clear hk);(try clear hi);(try clear ho0);(try clear ho1);obtain ⟨Ao54,co54,eo54⟩ := Kd.R_slice HO886.out;subst eo54)|((with_reducible refine gate_callee (f := 26) rfl ?_);refine goesL_ (some 72) rfl rfl Try.func26 (by kernel_rfl) rfl #[.slice Ao54 t883.length co54] rfl az ?_;(with_reducible refine (impl_OrdDepth.calls kj8 _ _ t883 t889 _ ?side1 ?side2 A23.out).mono ?_);(case side1 => exact Kd.Cz (Kd.R_reads' HO886.out).2.2);(case side2 => exact (Kd.R_reads' HO886.out).2.1);rintro e w55 ⟨rfl,hb⟩;refine ⟨_,rfl,?_⟩;have n0_ := Aside0.mk (Kd.R_below (Kd.Rz HO_6.out) hb);have n1_ := Aside0.mk (Kd.R_below (Kd.Rz HO882.out) hb);have n2_ := Aside0.mk (Kd.R_below (Kd.Rz HO886.out) hb);have n3_ := Aside0.mk (Kd.R_below (Kd.Rz HO888.out) hb);have n4_ := Aside0.mk (below_step bz hb);clear HO_6;clear HO882;clear HO886;clear HO888;clear HB;have HO_6 := n0_;have HO882 := n1_;have HO886 := n2_;have HO888 := n3_;have HB := n4_;clear n0_ n1_ n2_ n3_ n4_;(try clear hb);(try clear hb2);(try clear hk);(try clear hi);obtain ⟨Ao56,co56,eo56⟩ := Kd.R_slice HO_6.out;subst eo56)|((with_reducible refine gate_callee (f := 21) rfl ?_);refine goesL_ (some 74) rfl rfl Try.func21 (by kernel_rfl) rfl #[.slice Ao56 t868.length co56] rfl az ?_;(with_reducible refine (impl_OrdValid.calls kj8 _ _ t868 true _ ?side1 ?side2 A24.out).mono ?_);(case side1 => exact Kd.Cz (Kd.R_reads' HO_6.out).2.2);(case side2 => exact (Kd.R_reads' HO_6.out).2.1);rintro e w57 ⟨rfl,hb⟩;refine ⟨_,rfl,?_⟩;have n0_ := Aside0.mk (Kd.R_below (Kd.Rz HO_6.out) hb);have n1_ := Aside0.mk (Kd.R_below (Kd.Rz HO882.out) hb);have n2_ := Aside0.mk (Kd.R_below (Kd.Rz HO886.out) hb);have n3_ := Aside0.mk (Kd.R_below (Kd.Rz HO888.out) hb);have n4_ := Aside0.mk (below_step bz hb);clear HO_6;clear HO882;clear HO886;clear HO888;clear HB;have HO_6 := n0_;have HO882 := n1_;have HO886 := n2_;have HO888 := n3_;have HB := n4_;clear n0_ n1_ n2_ n3_ n4_;(try clear hb);(try clear hb2);(try clear hk);(try clear hi))|(go_at_call 26;(with_reducible refine (impl_OrdDepth.calls kj8 _ _ t868 t891 _ ?side1 ?side2 A26.out).mono ?_);(case side1 => exact Kd.Cz (Kd.R_reads' HO_6.out).2.2);(case side2 => exact (Kd.R_reads' HO_6.out).2.1);rintro e w58 ⟨rfl,hb⟩;have n0_ := Aside0.mk (Kd.R_below (Kd.Rz HO_6.out) hb);have n1_ := Aside0.mk (Kd.R_below (Kd.Rz HO882.out) hb);have n2_ := Aside0.mk (Kd.R_below (Kd.Rz HO886.out) hb);have n3_ := Aside0.mk (Kd.R_below (Kd.Rz HO888.out) hb);have n4_ := Aside0.mk (below_step bz hb);clear HO_6;clear HO882;clear HO886;clear HO888;clear HB;have HO_6 := n0_;have HO882 := n1_;have HO886 := n2_;have HO888 := n3_;have HB := n4_;clear n0_ n1_ n2_ n3_ n4_;(try clear hb);(try clear hb2);(try clear hk);(try clear hi);obtain ⟨Ao59,co59,eo59⟩ := Kd.R_slice HO882.out;subst eo59)|(go_at_call 28;(with_reducible refine (impl_OrdCompare.calls kj8 _ _ t868 _ _ t879 t892 _ ?side1 ?side2 ?side3 ?side4 A29.out).mono ?_);(case side1 => exact Kd.Cz (Kd.R_reads' HO_6.out).2.2);(case side2 => exact (Kd.R_reads' HO_6.out).2.1);(case side3 => exact Kd.Cz (Kd.R_reads' HO882.out).2.2);(case side4 => exact (Kd.R_reads' HO882.out).2.1);rintro e w60 ⟨rfl,hb⟩;have n0_ := Aside0.mk (Kd.R_below (Kd.Rz HO_6.out) hb);have n1_ := Aside0.mk (Kd.R_below (Kd.Rz HO882.out) hb);have n2_ := Aside0.mk (Kd.R_below (Kd.Rz HO886.out) hb);have n3_ := Aside0.mk (Kd.R_below (Kd.Rz HO888.out) hb);have n4_ := Aside0.mk (below_step bz hb);clear HO_6;clear HO882;clear HO886;clear HO888;clear HB;have HO_6 := n0_;have HO882 := n1_;have HO886 := n2_;have HO888 := n3_;have HB := n4_;clear n0_ n1_ n2_ n3_ n4_;(try clear hb);(try clear hb2);(try clear hk);(try clear hi))|(go_at_call 28;(with_reducible refine (impl_OrdCompare.calls kj8 _ _ t883 _ _ t868 t893 _ ?side1 ?side2 ?side3 ?side4 A51.out).mono ?_);(case side1 => exact Kd.Cz (Kd.R_reads' HO886.out).2.2);(case side2 => exact (Kd.R_reads' HO886.out).2.1);(case side3 => exact Kd.Cz (Kd.R_reads' HO_6.out).2.2);(case side4 => exact (Kd.R_reads' HO_6.out).2.1);rintro e w61 ⟨rfl,hb⟩;have n0_ := Aside0.mk (Kd.R_below (Kd.Rz HO_6.out) hb);have n1_ := Aside0.mk (Kd.R_below (Kd.Rz HO882.out) hb);have n2_ := Aside0.mk (Kd.R_below (Kd.Rz HO886.out) hb);have n3_ := Aside0.mk (Kd.R_below (Kd.Rz HO888.out) hb);have n4_ := Aside0.mk (below_step bz hb);clear HO_6;clear HO882;clear HO886;clear HO888;clear HB;have HO_6 := n0_;have HO882 := n1_;have HO886 := n2_;have HO888 := n3_;have HB := n4_;clear n0_ n1_ n2_ n3_ n4_;(try clear hb);(try clear hb2);(try clear hk);(try clear hi)))
              go_ret
              exact ⟨by first|rfl|(simp [errW_none,errW_some] <;> rfl)|(simp [*,errW_none,errW_some] <;> rfl),bz⟩
           ·rw [if_neg c30] at H
            have c30b0 : (t892 == (-1)) = false := beq_eq_false_iff_ne.mpr c30
            have c30b1 : (t892 != (-1)) = true := bne_iff_ne.mpr c30
            obtain rfl := Option.some.inj H
            go_wp2_with (first|((with_reducible refine gate_callee (f := 38) rfl ?_);refine goesL_ (some 63) rfl rfl Try.func38 (by kernel_rfl) rfl #[.int .i64 (wrap64 (t867 + 1))] rfl az ?_;(with_reducible refine (impl_OrdTower.calls kj8 (wrap64 (t867 + 1)) t879 true _ A21.out).mono ?_);rintro e w62 ⟨v881,rfl,ho0,hb⟩;refine ⟨_,rfl,?_⟩;have n0_ := Aside0.mk (Kd.R_elder' (Kd.Rz HO_6.out) (Kd.R_base ho0) hb);have n1_ := Aside0.mk (Kd.R_lower (Kd.R_new' ho0 (Kd.R_lt (Kd.Rz HO_6.out))) (below_size bz));have n2_ := Aside0.mk (below_step bz hb);clear HO_6;clear HB;have HO_6 := n0_;have HO882 := n1_;have HB := n2_;clear n0_ n1_ n2_;(try clear hb);(try clear hb2);(try clear hk);(try clear hi);(try clear ho0))|((with_reducible refine gate_callee (f := 40) rfl ?_);refine goesL_ (some 68) rfl rfl Try.func40 (by kernel_rfl) rfl #[.slice A1 l1.length c1] rfl az ?_;(with_reducible refine (spec_DrawOrdAdd.calls kj8 _ _ l1 t883 t884 _ ?side1 ?side2 A22.out).mono ?_);(case side1 => exact Kd.Cz (Kd.C_below HR1.out HB.out));(case side2 => exact HC1.out);rintro e w63 ⟨v885,v887,rfl,ho0,ho1,hb⟩;refine ⟨_,rfl,?_⟩;have n0_ := Aside0.mk (Kd.R_mono (Kd.R_told (Kd.R_told (Kd.R_old (Kd.Rz HO_6.out) hb) (Kd.R_base ho0)) (Kd.R_base ho1)) (fun _ h_ => h_.1));have n1_ := Aside0.mk (Kd.R_mono (Kd.R_told (Kd.R_told (Kd.R_old (Kd.Rz HO882.out) hb) (Kd.R_base ho0)) (Kd.R_base ho1)) (fun _ h_ => h_.1));have n2_ := Aside0.mk (Kd.R_lower (Kd.R_new' (Kd.R_new' ho0 (Kd.R_lt (Kd.Rz HO_6.out))) (Kd.R_lt (Kd.Rz HO882.out))) (below_size bz));have n3_ := Aside0.mk (Kd.R_lower (Kd.R_new' (Kd.R_new' ho1 (Kd.R_lt (Kd.Rz HO_6.out))) (Kd.R_lt (Kd.Rz HO882.out))) (below_size bz));have n4_ := Aside0.mk (below_step bz hb);clear HO_6;clear HO882;clear HB;have HO_6 := n0_;have HO882 := n1_;have HO886 := n2_;have HO888 := n3_;have HB := n4_;clear n0_ n1_ n2_ n3_ n4_;(try clear hb);(try clear hb2);(try clear hk);(try clear hi);(try clear ho0);(try clear ho1);obtain ⟨Ao64,co64,eo64⟩ := Kd.R_slice HO886.out;subst eo64)|((with_reducible refine gate_callee (f := 26) rfl ?_);refine goesL_ (some 72) rfl rfl Try.func26 (by kernel_rfl) rfl #[.slice Ao64 t883.length co64] rfl az ?_;(with_reducible refine (impl_OrdDepth.calls kj8 _ _ t883 t889 _ ?side1 ?side2 A23.out).mono ?_);(case side1 => exact Kd.Cz (Kd.R_reads' HO886.out).2.2);(case side2 => exact (Kd.R_reads' HO886.out).2.1);rintro e w65 ⟨rfl,hb⟩;refine ⟨_,rfl,?_⟩;have n0_ := Aside0.mk (Kd.R_below (Kd.Rz HO_6.out) hb);have n1_ := Aside0.mk (Kd.R_below (Kd.Rz HO882.out) hb);have n2_ := Aside0.mk (Kd.R_below (Kd.Rz HO886.out) hb);have n3_ := Aside0.mk (Kd.R_below (Kd.Rz HO888.out) hb);have n4_ := Aside0.mk (below_step bz hb);clear HO_6;clear HO882;clear HO886;clear HO888;clear HB;have HO_6 := n0_;have HO882 := n1_;have HO886 := n2_;have HO888 := n3_;have HB := n4_;clear n0_ n1_ n2_ n3_ n4_;(try clear hb);(try clear hb2);(try clear hk);(try clear hi);obtain ⟨Ao66,co66,eo66⟩ := Kd.R_slice HO_6.out;subst eo66)|((with_reducible refine gate_callee (f := 21) rfl ?_);refine goesL_ (some 74) rfl rfl Try.func21 (by kernel_rfl) rfl #[.slice Ao66 t868.length co66] rfl az ?_;(with_reducible refine (impl_OrdValid.calls kj8 _ _ t868 true _ ?side1 ?side2 A24.out).mono ?_);(case side1 => exact Kd.Cz (Kd.R_reads' HO_6.out).2.2);(case side2 => exact (Kd.R_reads' HO_6.out).2.1);rintro e w67 ⟨rfl,hb⟩;refine ⟨_,rfl,?_⟩;have n0_ := Aside0.mk (Kd.R_below (Kd.Rz HO_6.out) hb);have n1_ := Aside0.mk (Kd.R_below (Kd.Rz HO882.out) hb);have n2_ := Aside0.mk (Kd.R_below (Kd.Rz HO886.out) hb);have n3_ := Aside0.mk (Kd.R_below (Kd.Rz HO888.out) hb);have n4_ := Aside0.mk (below_step bz hb);clear HO_6;clear HO882;clear HO886;clear HO888;clear HB;have HO_6 := n0_;have HO882 := n1_;have HO886 := n2_;have HO888 := n3_;have HB := n4_;clear n0_ n1_ n2_ n3_ n4_;(try clear hb);(try clear hb2);(try clear hk);(try clear hi))|(go_at_call 26;(with_reducible refine (impl_OrdDepth.calls kj8 _ _ t868 t891 _ ?side1 ?side2 A26.out).mono ?_);(case side1 => exact Kd.Cz (Kd.R_reads' HO_6.out).2.2);(case side2 => exact (Kd.R_reads' HO_6.out).2.1);rintro e w68 ⟨rfl,hb⟩;have n0_ := Aside0.mk (Kd.R_below (Kd.Rz HO_6.out) hb);have n1_ := Aside0.mk (Kd.R_below (Kd.Rz HO882.out) hb);have n2_ := Aside0.mk (Kd.R_below (Kd.Rz HO886.out) hb);have n3_ := Aside0.mk (Kd.R_below (Kd.Rz HO888.out) hb);have n4_ := Aside0.mk (below_step bz hb);clear HO_6;clear HO882;clear HO886;clear HO888;clear HB;have HO_6 := n0_;have HO882 := n1_;have HO886 := n2_;have HO888 := n3_;have HB := n4_;clear n0_ n1_ n2_ n3_ n4_;(try clear hb);(try clear hb2);(try clear hk);(try clear hi);obtain ⟨Ao69,co69,eo69⟩ := Kd.R_slice HO882.out;subst eo69)|(go_at_call 28;(with_reducible refine (impl_OrdCompare.calls kj8 _ _ t868 _ _ t879 t892 _ ?side1 ?side2 ?side3 ?side4 A29.out).mono ?_);(case side1 => exact Kd.Cz (Kd.R_reads' HO_6.out).2.2);(case side2 => exact (Kd.R_reads' HO_6.out).2.1);(case side3 => exact Kd.Cz (Kd.R_reads' HO882.out).2.2);(case side4 => exact (Kd.R_reads' HO882.out).2.1);rintro e w70 ⟨rfl,hb⟩;have n0_ := Aside0.mk (Kd.R_below (Kd.Rz HO_6.out) hb);have n1_ := Aside0.mk (Kd.R_below (Kd.Rz HO882.out) hb);have n2_ := Aside0.mk (Kd.R_below (Kd.Rz HO886.out) hb);have n3_ := Aside0.mk (Kd.R_below (Kd.Rz HO888.out) hb);have n4_ := Aside0.mk (below_step bz hb);clear HO_6;clear HO882;clear HO886;clear HO888;clear HB;have HO_6 := n0_;have HO882 := n1_;have HO886 := n2_;have HO888 := n3_;have HB := n4_;clear n0_ n1_ n2_ n3_ n4_;(try clear hb);(try clear hb2);(try clear hk);(try clear hi)))
            go_ret
            exact ⟨by first|rfl|(simp [errW_none,errW_some] <;> rfl)|(simp [*,errW_none,errW_some] <;> rfl),bz⟩
          ·replace c28 := Bool.eq_false_iff.mpr c28
           subst c28
           have H1 : (if t889 < 0 then (some true) else (if t889 > t867 then (some true) else ((impl_OrdCompare.f kj8 t883 t868).bind fun t894 => (some (t894 == (-1)))))) = some r := by rw [if_neg (show ¬ (false = true) by decide)] at H;exact H
           clear H
           have H := H1
           clear H1
           by_cases c71 : t889 < 0
           ·rw [if_pos c71] at H
            have c71b0 : decide (t889 < 0) = true := decide_eq_true c71
            clear c71
            obtain rfl := Option.some.inj H
            go_wp2_with (first|((with_reducible refine gate_callee (f := 38) rfl ?_);refine goesL_ (some 63) rfl rfl Try.func38 (by kernel_rfl) rfl #[.int .i64 (wrap64 (t867 + 1))] rfl az ?_;(with_reducible refine (impl_OrdTower.calls kj8 (wrap64 (t867 + 1)) t879 false _ A21.out).mono ?_);rintro e w72 ⟨v881,rfl,ho0,hb⟩;refine ⟨_,rfl,?_⟩;have n0_ := Aside0.mk (Kd.R_elder' (Kd.Rz HO_6.out) (Kd.R_base ho0) hb);have n1_ := Aside0.mk (Kd.R_lower (Kd.R_new' ho0 (Kd.R_lt (Kd.Rz HO_6.out))) (below_size bz));have n2_ := Aside0.mk (below_step bz hb);clear HO_6;clear HB;have HO_6 := n0_;have HO882 := n1_;have HB := n2_;clear n0_ n1_ n2_;(try clear hb);(try clear hb2);(try clear hk);(try clear hi);(try clear ho0))|((with_reducible refine gate_callee (f := 40) rfl ?_);refine goesL_ (some 68) rfl rfl Try.func40 (by kernel_rfl) rfl #[.slice A1 l1.length c1] rfl az ?_;(with_reducible refine (spec_DrawOrdAdd.calls kj8 _ _ l1 t883 t884 _ ?side1 ?side2 A22.out).mono ?_);(case side1 => exact Kd.Cz (Kd.C_below HR1.out HB.out));(case side2 => exact HC1.out);rintro e w73 ⟨v885,v887,rfl,ho0,ho1,hb⟩;refine ⟨_,rfl,?_⟩;have n0_ := Aside0.mk (Kd.R_mono (Kd.R_told (Kd.R_told (Kd.R_old (Kd.Rz HO_6.out) hb) (Kd.R_base ho0)) (Kd.R_base ho1)) (fun _ h_ => h_.1));have n1_ := Aside0.mk (Kd.R_mono (Kd.R_told (Kd.R_told (Kd.R_old (Kd.Rz HO882.out) hb) (Kd.R_base ho0)) (Kd.R_base ho1)) (fun _ h_ => h_.1));have n2_ := Aside0.mk (Kd.R_lower (Kd.R_new' (Kd.R_new' ho0 (Kd.R_lt (Kd.Rz HO_6.out))) (Kd.R_lt (Kd.Rz HO882.out))) (below_size bz));have n3_ := Aside0.mk (Kd.R_lower (Kd.R_new' (Kd.R_new' ho1 (Kd.R_lt (Kd.Rz HO_6.out))) (Kd.R_lt (Kd.Rz HO882.out))) (below_size bz));have n4_ := Aside0.mk (below_step bz hb);clear HO_6;clear HO882;clear HB;have HO_6 := n0_;have HO882 := n1_;have HO886 := n2_;have HO888 := n3_;have HB := n4_;clear n0_ n1_ n2_ n3_ n4_;(try clear hb);(try clear hb2);(try clear hk);(try clear hi);(try clear ho0);(try clear ho1);obtain ⟨Ao74,co74,eo74⟩ := Kd.R_slice HO886.out;subst eo74)|((with_reducible refine gate_callee (f := 26) rfl ?_);refine goesL_ (some 72) rfl rfl Try.func26 (by kernel_rfl) rfl #[.slice Ao74 t883.length co74] rfl az ?_;(with_reducible refine (impl_OrdDepth.calls kj8 _ _ t883 t889 _ ?side1 ?side2 A23.out).mono ?_);(case side1 => exact Kd.Cz (Kd.R_reads' HO886.out).2.2);(case side2 => exact (Kd.R_reads' HO886.out).2.1);rintro e w75 ⟨rfl,hb⟩;refine ⟨_,rfl,?_⟩;have n0_ := Aside0.mk (Kd.R_below (Kd.Rz HO_6.out) hb);have n1_ := Aside0.mk (Kd.R_below (Kd.Rz HO882.out) hb);have n2_ := Aside0.mk (Kd.R_below (Kd.Rz HO886.out) hb);have n3_ := Aside0.mk (Kd.R_below (Kd.Rz HO888.out) hb);have n4_ := Aside0.mk (below_step bz hb);clear HO_6;clear HO882;clear HO886;clear HO888;clear HB;have HO_6 := n0_;have HO882 := n1_;have HO886 := n2_;have HO888 := n3_;have HB := n4_;clear n0_ n1_ n2_ n3_ n4_;(try clear hb);(try clear hb2);(try clear hk);(try clear hi);obtain ⟨Ao76,co76,eo76⟩ := Kd.R_slice HO_6.out;subst eo76)|((with_reducible refine gate_callee (f := 21) rfl ?_);refine goesL_ (some 74) rfl rfl Try.func21 (by kernel_rfl) rfl #[.slice Ao76 t868.length co76] rfl az ?_;(with_reducible refine (impl_OrdValid.calls kj8 _ _ t868 true _ ?side1 ?side2 A24.out).mono ?_);(case side1 => exact Kd.Cz (Kd.R_reads' HO_6.out).2.2);(case side2 => exact (Kd.R_reads' HO_6.out).2.1);rintro e w77 ⟨rfl,hb⟩;refine ⟨_,rfl,?_⟩;have n0_ := Aside0.mk (Kd.R_below (Kd.Rz HO_6.out) hb);have n1_ := Aside0.mk (Kd.R_below (Kd.Rz HO882.out) hb);have n2_ := Aside0.mk (Kd.R_below (Kd.Rz HO886.out) hb);have n3_ := Aside0.mk (Kd.R_below (Kd.Rz HO888.out) hb);have n4_ := Aside0.mk (below_step bz hb);clear HO_6;clear HO882;clear HO886;clear HO888;clear HB;have HO_6 := n0_;have HO882 := n1_;have HO886 := n2_;have HO888 := n3_;have HB := n4_;clear n0_ n1_ n2_ n3_ n4_;(try clear hb);(try clear hb2);(try clear hk);(try clear hi))|(go_at_call 26;(with_reducible refine (impl_OrdDepth.calls kj8 _ _ t868 t891 _ ?side1 ?side2 A26.out).mono ?_);(case side1 => exact Kd.Cz (Kd.R_reads' HO_6.out).2.2);(case side2 => exact (Kd.R_reads' HO_6.out).2.1);rintro e w78 ⟨rfl,hb⟩;have n0_ := Aside0.mk (Kd.R_below (Kd.Rz HO_6.out) hb);have n1_ := Aside0.mk (Kd.R_below (Kd.Rz HO882.out) hb);have n2_ := Aside0.mk (Kd.R_below (Kd.Rz HO886.out) hb);have n3_ := Aside0.mk (Kd.R_below (Kd.Rz HO888.out) hb);have n4_ := Aside0.mk (below_step bz hb);clear HO_6;clear HO882;clear HO886;clear HO888;clear HB;have HO_6 := n0_;have HO882 := n1_;have HO886 := n2_;have HO888 := n3_;have HB := n4_;clear n0_ n1_ n2_ n3_ n4_;(try clear hb);(try clear hb2);(try clear hk);(try clear hi)))
            go_ret
            exact ⟨by first|rfl|(simp [errW_none,errW_some] <;> rfl)|(simp [*,errW_none,errW_some] <;> rfl),bz⟩
           ·rw [if_neg c71] at H
            have c71b0 : decide (t889 < 0) = false := decide_eq_false c71
            clear c71
            by_cases c79 : t889 > t867
            ·rw [if_pos c79] at H
             have c79b0 : decide (t867 < t889) = true := decide_eq_true c79
             clear c79
             obtain rfl := Option.some.inj H
             go_wp2_with (first|((with_reducible refine gate_callee (f := 38) rfl ?_);refine goesL_ (some 63) rfl rfl Try.func38 (by kernel_rfl) rfl #[.int .i64 (wrap64 (t867 + 1))] rfl az ?_;(with_reducible refine (impl_OrdTower.calls kj8 (wrap64 (t867 + 1)) t879 false _ A21.out).mono ?_);rintro e w80 ⟨v881,rfl,ho0,hb⟩;refine ⟨_,rfl,?_⟩;have n0_ := Aside0.mk (Kd.R_elder' (Kd.Rz HO_6.out) (Kd.R_base ho0) hb);have n1_ := Aside0.mk (Kd.R_lower (Kd.R_new' ho0 (Kd.R_lt (Kd.Rz HO_6.out))) (below_size bz));have n2_ := Aside0.mk (below_step bz hb);clear HO_6;clear HB;have HO_6 := n0_;have HO882 := n1_;have HB := n2_;clear n0_ n1_ n2_;(try clear hb);(try clear hb2);(try clear hk);(try clear hi);(try clear ho0))|((with_reducible refine gate_callee (f := 40) rfl ?_);refine goesL_ (some 68) rfl rfl Try.func40 (by kernel_rfl) rfl #[.slice A1 l1.length c1] rfl az ?_;(with_reducible refine (spec_DrawOrdAdd.calls kj8 _ _ l1 t883 t884 _ ?side1 ?side2 A22.out).mono ?_);(case side1 => exact Kd.Cz (Kd.C_below HR1.out HB.out));(case side2 => exact HC1.out);rintro e w81 ⟨v885,v887,rfl,ho0,ho1,hb⟩;refine ⟨_,rfl,?_⟩;have n0_ := Aside0.mk (Kd.R_mono (Kd.R_told (Kd.R_told (Kd.R_old (Kd.Rz HO_6.out) hb) (Kd.R_base ho0)) (Kd.R_base ho1)) (fun _ h_ => h_.1));have n1_ := Aside0.mk (Kd.R_mono (Kd.R_told (Kd.R_told (Kd.R_old (Kd.Rz HO882.out) hb) (Kd.R_base ho0)) (Kd.R_base ho1)) (fun _ h_ => h_.1));have n2_ := Aside0.mk (Kd.R_lower (Kd.R_new' (Kd.R_new' ho0 (Kd.R_lt (Kd.Rz HO_6.out))) (Kd.R_lt (Kd.Rz HO882.out))) (below_size bz));have n3_ := Aside0.mk (Kd.R_lower (Kd.R_new' (Kd.R_new' ho1 (Kd.R_lt (Kd.Rz HO_6.out))) (Kd.R_lt (Kd.Rz HO882.out))) (below_size bz));have n4_ := Aside0.mk (below_step bz hb);clear HO_6;clear HO882;clear HB;have HO_6 := n0_;have HO882 := n1_;have HO886 := n2_;have HO888 := n3_;have HB := n4_;clear n0_ n1_ n2_ n3_ n4_;(try clear hb);(try clear hb2);(try clear hk);(try clear hi);(try clear ho0);(try clear ho1);obtain ⟨Ao82,co82,eo82⟩ := Kd.R_slice HO886.out;subst eo82)|((with_reducible refine gate_callee (f := 26) rfl ?_);refine goesL_ (some 72) rfl rfl Try.func26 (by kernel_rfl) rfl #[.slice Ao82 t883.length co82] rfl az ?_;(with_reducible refine (impl_OrdDepth.calls kj8 _ _ t883 t889 _ ?side1 ?side2 A23.out).mono ?_);(case side1 => exact Kd.Cz (Kd.R_reads' HO886.out).2.2);(case side2 => exact (Kd.R_reads' HO886.out).2.1);rintro e w83 ⟨rfl,hb⟩;refine ⟨_,rfl,?_⟩;have n0_ := Aside0.mk (Kd.R_below (Kd.Rz HO_6.out) hb);have n1_ := Aside0.mk (Kd.R_below (Kd.Rz HO882.out) hb);have n2_ := Aside0.mk (Kd.R_below (Kd.Rz HO886.out) hb);have n3_ := Aside0.mk (Kd.R_below (Kd.Rz HO888.out) hb);have n4_ := Aside0.mk (below_step bz hb);clear HO_6;clear HO882;clear HO886;clear HO888;clear HB;have HO_6 := n0_;have HO882 := n1_;have HO886 := n2_;have HO888 := n3_;have HB := n4_;clear n0_ n1_ n2_ n3_ n4_;(try clear hb);(try clear hb2);(try clear hk);(try clear hi);obtain ⟨Ao84,co84,eo84⟩ := Kd.R_slice HO_6.out;subst eo84)|((with_reducible refine gate_callee (f := 21) rfl ?_);refine goesL_ (some 74) rfl rfl Try.func21 (by kernel_rfl) rfl #[.slice Ao84 t868.length co84] rfl az ?_;(with_reducible refine (impl_OrdValid.calls kj8 _ _ t868 true _ ?side1 ?side2 A24.out).mono ?_);(case side1 => exact Kd.Cz (Kd.R_reads' HO_6.out).2.2);(case side2 => exact (Kd.R_reads' HO_6.out).2.1);rintro e w85 ⟨rfl,hb⟩;refine ⟨_,rfl,?_⟩;have n0_ := Aside0.mk (Kd.R_below (Kd.Rz HO_6.out) hb);have n1_ := Aside0.mk (Kd.R_below (Kd.Rz HO882.out) hb);have n2_ := Aside0.mk (Kd.R_below (Kd.Rz HO886.out) hb);have n3_ := Aside0.mk (Kd.R_below (Kd.Rz HO888.out) hb);have n4_ := Aside0.mk (below_step bz hb);clear HO_6;clear HO882;clear HO886;clear HO888;clear HB;have HO_6 := n0_;have HO882 := n1_;have HO886 := n2_;have HO888 := n3_;have HB := n4_;clear n0_ n1_ n2_ n3_ n4_;(try clear hb);(try clear hb2);(try clear hk);(try clear hi))|(go_at_call 26;(with_reducible refine (impl_OrdDepth.calls kj8 _ _ t868 t891 _ ?side1 ?side2 A26.out).mono ?_);(case side1 => exact Kd.Cz (Kd.R_reads' HO_6.out).2.2);(case side2 => exact (Kd.R_reads' HO_6.out).2.1);rintro e w86 ⟨rfl,hb⟩;have n0_ := Aside0.mk (Kd.R_below (Kd.Rz HO_6.out) hb);have n1_ := Aside0.mk (Kd.R_below (Kd.Rz HO882.out) hb);have n2_ := Aside0.mk (Kd.R_below (Kd.Rz HO886.out) hb);have n3_ := Aside0.mk (Kd.R_below (Kd.Rz HO888.out) hb);have n4_ := Aside0.mk (below_step bz hb);clear HO_6;clear HO882;clear HO886;clear HO888;clear HB;have HO_6 := n0_;have HO882 := n1_;have HO886 := n2_;have HO888 := n3_;have HB := n4_;clear n0_ n1_ n2_ n3_ n4_;(try clear hb);(try clear hb2);(try clear hk);(try clear hi)))
             go_ret
             exact ⟨by first|rfl|(simp [errW_none,errW_some] <;> rfl)|(simp [*,errW_none,errW_some] <;> rfl),bz⟩
            ·rw [if_neg c79] at H
             have c79b0 : decide (t867 < t889) = false := decide_eq_false c79
             clear c79
             replace H := Option.bind_eq_some_iff.mp H
             obtain ⟨t894,A870,H⟩ := H
             replace H : (some (t894 == (-1))) = some r := H
             have A87 := Aside0.mk A870
             clear A870
             obtain rfl := Option.some.inj H
             go_wp2_with (first|((with_reducible refine gate_callee (f := 38) rfl ?_);refine goesL_ (some 63) rfl rfl Try.func38 (by kernel_rfl) rfl #[.int .i64 (wrap64 (t867 + 1))] rfl az ?_;(with_reducible refine (impl_OrdTower.calls kj8 (wrap64 (t867 + 1)) t879 false _ A21.out).mono ?_);rintro e w88 ⟨v881,rfl,ho0,hb⟩;refine ⟨_,rfl,?_⟩;have n0_ := Aside0.mk (Kd.R_elder' (Kd.Rz HO_6.out) (Kd.R_base ho0) hb);have n1_ := Aside0.mk (Kd.R_lower (Kd.R_new' ho0 (Kd.R_lt (Kd.Rz HO_6.out))) (below_size bz));have n2_ := Aside0.mk (below_step bz hb);clear HO_6;clear HB;have HO_6 := n0_;have HO882 := n1_;have HB := n2_;clear n0_ n1_ n2_;(try clear hb);(try clear hb2);(try clear hk);(try clear hi);(try clear ho0))|((with_reducible refine gate_callee (f := 40) rfl ?_);refine goesL_ (some 68) rfl rfl Try.func40 (by kernel_rfl) rfl #[.slice A1 l1.length c1] rfl az ?_;(with_reducible refine (spec_DrawOrdAdd.calls kj8 _ _ l1 t883 t884 _ ?side1 ?side2 A22.out).mono ?_);(case side1 => exact Kd.Cz (Kd.C_below HR1.out HB.out));(case side2 => exact HC1.out);rintro e w89 ⟨v885,v887,rfl,ho0,ho1,hb⟩;refine ⟨_,rfl,?_⟩;have n0_ := Aside0.mk (Kd.R_mono (Kd.R_told (Kd.R_told (Kd.R_old (Kd.Rz HO_6.out) hb) (Kd.R_base ho0)) (Kd.R_base ho1)) (fun _ h_ => h_.1));have n1_ := Aside0.mk (Kd.R_mono (Kd.R_told (Kd.R_told (Kd.R_old (Kd.Rz HO882.out) hb) (Kd.R_base ho0)) (Kd.R_base ho1)) (fun _ h_ => h_.1));have n2_ := Aside0.mk (Kd.R_lower (Kd.R_new' (Kd.R_new' ho0 (Kd.R_lt (Kd.Rz HO_6.out))) (Kd.R_lt (Kd.Rz HO882.out))) (below_size bz));have n3_ := Aside0.mk (Kd.R_lower (Kd.R_new' (Kd.R_new' ho1 (Kd.R_lt (Kd.Rz HO_6.out))) (Kd.R_lt (Kd.Rz HO882.out))) (below_size bz));have n4_ := Aside0.mk (below_step bz hb);clear HO_6;clear HO882;clear HB;have HO_6 := n0_;have HO882 := n1_;have HO886 := n2_;have HO888 := n3_;have HB := n4_;clear n0_ n1_ n2_ n3_ n4_;(try clear hb);(try clear hb2);(try clear hk);(try clear hi);(try clear ho0);(try clear ho1);obtain ⟨Ao90,co90,eo90⟩ := Kd.R_slice HO886.out;subst eo90)|((with_reducible refine gate_callee (f := 26) rfl ?_);refine goesL_ (some 72) rfl rfl Try.func26 (by kernel_rfl) rfl #[.slice Ao90 t883.length co90] rfl az ?_;(with_reducible refine (impl_OrdDepth.calls kj8 _ _ t883 t889 _ ?side1 ?side2 A23.out).mono ?_);(case side1 => exact Kd.Cz (Kd.R_reads' HO886.out).2.2);(case side2 => exact (Kd.R_reads' HO886.out).2.1);rintro e w91 ⟨rfl,hb⟩;refine ⟨_,rfl,?_⟩;have n0_ := Aside0.mk (Kd.R_below (Kd.Rz HO_6.out) hb);have n1_ := Aside0.mk (Kd.R_below (Kd.Rz HO882.out) hb);have n2_ := Aside0.mk (Kd.R_below (Kd.Rz HO886.out) hb);have n3_ := Aside0.mk (Kd.R_below (Kd.Rz HO888.out) hb);have n4_ := Aside0.mk (below_step bz hb);clear HO_6;clear HO882;clear HO886;clear HO888;clear HB;have HO_6 := n0_;have HO882 := n1_;have HO886 := n2_;have HO888 := n3_;have HB := n4_;clear n0_ n1_ n2_ n3_ n4_;(try clear hb);(try clear hb2);(try clear hk);(try clear hi);obtain ⟨Ao92,co92,eo92⟩ := Kd.R_slice HO_6.out;subst eo92)|((with_reducible refine gate_callee (f := 21) rfl ?_);refine goesL_ (some 74) rfl rfl Try.func21 (by kernel_rfl) rfl #[.slice Ao92 t868.length co92] rfl az ?_;(with_reducible refine (impl_OrdValid.calls kj8 _ _ t868 true _ ?side1 ?side2 A24.out).mono ?_);(case side1 => exact Kd.Cz (Kd.R_reads' HO_6.out).2.2);(case side2 => exact (Kd.R_reads' HO_6.out).2.1);rintro e w93 ⟨rfl,hb⟩;refine ⟨_,rfl,?_⟩;have n0_ := Aside0.mk (Kd.R_below (Kd.Rz HO_6.out) hb);have n1_ := Aside0.mk (Kd.R_below (Kd.Rz HO882.out) hb);have n2_ := Aside0.mk (Kd.R_below (Kd.Rz HO886.out) hb);have n3_ := Aside0.mk (Kd.R_below (Kd.Rz HO888.out) hb);have n4_ := Aside0.mk (below_step bz hb);clear HO_6;clear HO882;clear HO886;clear HO888;clear HB;have HO_6 := n0_;have HO882 := n1_;have HO886 := n2_;have HO888 := n3_;have HB := n4_;clear n0_ n1_ n2_ n3_ n4_;(try clear hb);(try clear hb2);(try clear hk);(try clear hi))|(go_at_call 26;(with_reducible refine (impl_OrdDepth.calls kj8 _ _ t868 t891 _ ?side1 ?side2 A26.out).mono ?_);(case side1 => exact Kd.Cz (Kd.R_reads' HO_6.out).2.2);(case side2 => exact (Kd.R_reads' HO_6.out).2.1);rintro e w94 ⟨rfl,hb⟩;have n0_ := Aside0.mk (Kd.R_below (Kd.Rz HO_6.out) hb);have n1_ := Aside0.mk (Kd.R_below (Kd.Rz HO882.out) hb);have n2_ := Aside0.mk (Kd.R_below (Kd.Rz HO886.out) hb);have n3_ := Aside0.mk (Kd.R_below (Kd.Rz HO888.out) hb);have n4_ := Aside0.mk (below_step bz hb);clear HO_6;clear HO882;clear HO886;clear HO888;clear HB;have HO_6 := n0_;have HO882 := n1_;have HO886 := n2_;have HO888 := n3_;have HB := n4_;clear n0_ n1_ n2_ n3_ n4_;(try clear hb);(try clear hb2);(try clear hk);(try clear hi))|(go_at_call 28;(with_reducible refine (impl_OrdCompare.calls kj8 _ _ t883 _ _ t868 t894 _ ?side1 ?side2 ?side3 ?side4 A87.out).mono ?_);(case side1 => exact Kd.Cz (Kd.R_reads' HO886.out).2.2);(case side2 => exact (Kd.R_reads' HO886.out).2.1);(case side3 => exact Kd.Cz (Kd.R_reads' HO_6.out).2.2);(case side4 => exact (Kd.R_reads' HO_6.out).2.1);rintro e w95 ⟨rfl,hb⟩;have n0_ := Aside0.mk (Kd.R_below (Kd.Rz HO_6.out) hb);have n1_ := Aside0.mk (Kd.R_below (Kd.Rz HO882.out) hb);have n2_ := Aside0.mk (Kd.R_below (Kd.Rz HO886.out) hb);have n3_ := Aside0.mk (Kd.R_below (Kd.Rz HO888.out) hb);have n4_ := Aside0.mk (below_step bz hb);clear HO_6;clear HO882;clear HO886;clear HO888;clear HB;have HO_6 := n0_;have HO882 := n1_;have HO886 := n2_;have HO888 := n3_;have HB := n4_;clear n0_ n1_ n2_ n3_ n4_;(try clear hb);(try clear hb2);(try clear hk);(try clear hi)))
             go_ret
             exact ⟨by first|rfl|(simp [errW_none,errW_some] <;> rfl)|(simp [*,errW_none,errW_some] <;> rfl),bz⟩
         ·rw [if_neg c27] at H
          have c27b0 : (t891 == (wrap64 (t867 + 1))) = false := beq_eq_false_iff_ne.mpr c27
          have c27b1 : (t891 != (wrap64 (t867 + 1))) = true := bne_iff_ne.mpr c27
          obtain rfl := Option.some.inj H
          go_wp2_with (first|((with_reducible refine gate_callee (f := 38) rfl ?_);refine goesL_ (some 63) rfl rfl Try.func38 (by kernel_rfl) rfl #[.int .i64 (wrap64 (t867 + 1))] rfl az ?_;(with_reducible refine (impl_OrdTower.calls kj8 (wrap64 (t867 + 1)) t879 t880 _ A21.out).mono ?_);rintro e w96 ⟨v881,rfl,ho0,hb⟩;refine ⟨_,rfl,?_⟩;have n0_ := Aside0.mk (Kd.R_elder' (Kd.Rz HO_6.out) (Kd.R_base ho0) hb);have n1_ := Aside0.mk (Kd.R_lower (Kd.R_new' ho0 (Kd.R_lt (Kd.Rz HO_6.out))) (below_size bz));have n2_ := Aside0.mk (below_step bz hb);clear HO_6;clear HB;have HO_6 := n0_;have HO882 := n1_;have HB := n2_;clear n0_ n1_ n2_;(try clear hb);(try clear hb2);(try clear hk);(try clear hi);(try clear ho0))|((with_reducible refine gate_callee (f := 40) rfl ?_);refine goesL_ (some 68) rfl rfl Try.func40 (by kernel_rfl) rfl #[.slice A1 l1.length c1] rfl az ?_;(with_reducible refine (spec_DrawOrdAdd.calls kj8 _ _ l1 t883 t884 _ ?side1 ?side2 A22.out).mono ?_);(case side1 => exact Kd.Cz (Kd.C_below HR1.out HB.out));(case side2 => exact HC1.out);rintro e w97 ⟨v885,v887,rfl,ho0,ho1,hb⟩;refine ⟨_,rfl,?_⟩;have n0_ := Aside0.mk (Kd.R_mono (Kd.R_told (Kd.R_told (Kd.R_old (Kd.Rz HO_6.out) hb) (Kd.R_base ho0)) (Kd.R_base ho1)) (fun _ h_ => h_.1));have n1_ := Aside0.mk (Kd.R_mono (Kd.R_told (Kd.R_told (Kd.R_old (Kd.Rz HO882.out) hb) (Kd.R_base ho0)) (Kd.R_base ho1)) (fun _ h_ => h_.1));have n2_ := Aside0.mk (Kd.R_lower (Kd.R_new' (Kd.R_new' ho0 (Kd.R_lt (Kd.Rz HO_6.out))) (Kd.R_lt (Kd.Rz HO882.out))) (below_size bz));have n3_ := Aside0.mk (Kd.R_lower (Kd.R_new' (Kd.R_new' ho1 (Kd.R_lt (Kd.Rz HO_6.out))) (Kd.R_lt (Kd.Rz HO882.out))) (below_size bz));have n4_ := Aside0.mk (below_step bz hb);clear HO_6;clear HO882;clear HB;have HO_6 := n0_;have HO882 := n1_;have HO886 := n2_;have HO888 := n3_;have HB := n4_;clear n0_ n1_ n2_ n3_ n4_;(try clear hb);(try clear hb2);(try clear hk);(try clear hi);(try clear ho0);(try clear ho1);obtain ⟨Ao98,co98,eo98⟩ := Kd.R_slice HO886.out;subst eo98)|((with_reducible refine gate_callee (f := 26) rfl ?_);refine goesL_ (some 72) rfl rfl Try.func26 (by kernel_rfl) rfl #[.slice Ao98 t883.length co98] rfl az ?_;(with_reducible refine (impl_OrdDepth.calls kj8 _ _ t883 t889 _ ?side1 ?side2 A23.out).mono ?_);(case side1 => exact Kd.Cz (Kd.R_reads' HO886.out).2.2);(case side2 => exact (Kd.R_reads' HO886.out).2.1);rintro e w99 ⟨rfl,hb⟩;refine ⟨_,rfl,?_⟩;have n0_ := Aside0.mk (Kd.R_below (Kd.Rz HO_6.out) hb);have n1_ := Aside0.mk (Kd.R_below (Kd.Rz HO882.out) hb);have n2_ := Aside0.mk (Kd.R_below (Kd.Rz HO886.out) hb);have n3_ := Aside0.mk (Kd.R_below (Kd.Rz HO888.out) hb);have n4_ := Aside0.mk (below_step bz hb);clear HO_6;clear HO882;clear HO886;clear HO888;clear HB;have HO_6 := n0_;have HO882 := n1_;have HO886 := n2_;have HO888 := n3_;have HB := n4_;clear n0_ n1_ n2_ n3_ n4_;(try clear hb);(try clear hb2);(try clear hk);(try clear hi);obtain ⟨Ao100,co100,eo100⟩ := Kd.R_slice HO_6.out;subst eo100)|((with_reducible refine gate_callee (f := 21) rfl ?_);refine goesL_ (some 74) rfl rfl Try.func21 (by kernel_rfl) rfl #[.slice Ao100 t868.length co100] rfl az ?_;(with_reducible refine (impl_OrdValid.calls kj8 _ _ t868 true _ ?side1 ?side2 A24.out).mono ?_);(case side1 => exact Kd.Cz (Kd.R_reads' HO_6.out).2.2);(case side2 => exact (Kd.R_reads' HO_6.out).2.1);rintro e w101 ⟨rfl,hb⟩;refine ⟨_,rfl,?_⟩;have n0_ := Aside0.mk (Kd.R_below (Kd.Rz HO_6.out) hb);have n1_ := Aside0.mk (Kd.R_below (Kd.Rz HO882.out) hb);have n2_ := Aside0.mk (Kd.R_below (Kd.Rz HO886.out) hb);have n3_ := Aside0.mk (Kd.R_below (Kd.Rz HO888.out) hb);have n4_ := Aside0.mk (below_step bz hb);clear HO_6;clear HO882;clear HO886;clear HO888;clear HB;have HO_6 := n0_;have HO882 := n1_;have HO886 := n2_;have HO888 := n3_;have HB := n4_;clear n0_ n1_ n2_ n3_ n4_;(try clear hb);(try clear hb2);(try clear hk);(try clear hi))|(go_at_call 26;(with_reducible refine (impl_OrdDepth.calls kj8 _ _ t868 t891 _ ?side1 ?side2 A26.out).mono ?_);(case side1 => exact Kd.Cz (Kd.R_reads' HO_6.out).2.2);(case side2 => exact (Kd.R_reads' HO_6.out).2.1);rintro e w102 ⟨rfl,hb⟩;have n0_ := Aside0.mk (Kd.R_below (Kd.Rz HO_6.out) hb);have n1_ := Aside0.mk (Kd.R_below (Kd.Rz HO882.out) hb);have n2_ := Aside0.mk (Kd.R_below (Kd.Rz HO886.out) hb);have n3_ := Aside0.mk (Kd.R_below (Kd.Rz HO888.out) hb);have n4_ := Aside0.mk (below_step bz hb);clear HO_6;clear HO882;clear HO886;clear HO888;clear HB;have HO_6 := n0_;have HO882 := n1_;have HO886 := n2_;have HO888 := n3_;have HB := n4_;clear n0_ n1_ n2_ n3_ n4_;(try clear hb);(try clear hb2);(try clear hk);(try clear hi)))
          go_ret
          exact ⟨by first|rfl|(simp [errW_none,errW_some] <;> rfl)|(simp [*,errW_none,errW_some] <;> rfl),bz⟩
        ·replace c25 := Bool.eq_false_iff.mpr c25
         subst c25
         have H1 : (some false) = some r := by rw [if_neg (show ¬ (false = true) by decide)] at H;exact H
         clear H
         have H := H1
         clear H1
         obtain rfl := Option.some.inj H
         go_wp2_with (first|((with_reducible refine gate_callee (f := 38) rfl ?_);refine goesL_ (some 63) rfl rfl Try.func38 (by kernel_rfl) rfl #[.int .i64 (wrap64 (t867 + 1))] rfl az ?_;(with_reducible refine (impl_OrdTower.calls kj8 (wrap64 (t867 + 1)) t879 t880 _ A21.out).mono ?_);rintro e w103 ⟨v881,rfl,ho0,hb⟩;refine ⟨_,rfl,?_⟩;have n0_ := Aside0.mk (Kd.R_elder' (Kd.Rz HO_6.out) (Kd.R_base ho0) hb);have n1_ := Aside0.mk (Kd.R_lower (Kd.R_new' ho0 (Kd.R_lt (Kd.Rz HO_6.out))) (below_size bz));have n2_ := Aside0.mk (below_step bz hb);clear HO_6;clear HB;have HO_6 := n0_;have HO882 := n1_;have HB := n2_;clear n0_ n1_ n2_;(try clear hb);(try clear hb2);(try clear hk);(try clear hi);(try clear ho0))|((with_reducible refine gate_callee (f := 40) rfl ?_);refine goesL_ (some 68) rfl rfl Try.func40 (by kernel_rfl) rfl #[.slice A1 l1.length c1] rfl az ?_;(with_reducible refine (spec_DrawOrdAdd.calls kj8 _ _ l1 t883 t884 _ ?side1 ?side2 A22.out).mono ?_);(case side1 => exact Kd.Cz (Kd.C_below HR1.out HB.out));(case side2 => exact HC1.out);rintro e w104 ⟨v885,v887,rfl,ho0,ho1,hb⟩;refine ⟨_,rfl,?_⟩;have n0_ := Aside0.mk (Kd.R_mono (Kd.R_told (Kd.R_told (Kd.R_old (Kd.Rz HO_6.out) hb) (Kd.R_base ho0)) (Kd.R_base ho1)) (fun _ h_ => h_.1));have n1_ := Aside0.mk (Kd.R_mono (Kd.R_told (Kd.R_told (Kd.R_old (Kd.Rz HO882.out) hb) (Kd.R_base ho0)) (Kd.R_base ho1)) (fun _ h_ => h_.1));have n2_ := Aside0.mk (Kd.R_lower (Kd.R_new' (Kd.R_new' ho0 (Kd.R_lt (Kd.Rz HO_6.out))) (Kd.R_lt (Kd.Rz HO882.out))) (below_size bz));have n3_ := Aside0.mk (Kd.R_lower (Kd.R_new' (Kd.R_new' ho1 (Kd.R_lt (Kd.Rz HO_6.out))) (Kd.R_lt (Kd.Rz HO882.out))) (below_size bz));have n4_ := Aside0.mk (below_step bz hb);clear HO_6;clear HO882;clear HB;have HO_6 := n0_;have HO882 := n1_;have HO886 := n2_;have HO888 := n3_;have HB := n4_;clear n0_ n1_ n2_ n3_ n4_;(try clear hb);(try clear hb2);(try clear hk);(try clear hi);(try clear ho0);(try clear ho1);obtain ⟨Ao105,co105,eo105⟩ := Kd.R_slice HO886.out;subst eo105)|((with_reducible refine gate_callee (f := 26) rfl ?_);refine goesL_ (some 72) rfl rfl Try.func26 (by kernel_rfl) rfl #[.slice Ao105 t883.length co105] rfl az ?_;(with_reducible refine (impl_OrdDepth.calls kj8 _ _ t883 t889 _ ?side1 ?side2 A23.out).mono ?_);(case side1 => exact Kd.Cz (Kd.R_reads' HO886.out).2.2);(case side2 => exact (Kd.R_reads' HO886.out).2.1);rintro e w106 ⟨rfl,hb⟩;refine ⟨_,rfl,?_⟩;have n0_ := Aside0.mk (Kd.R_below (Kd.Rz HO_6.out) hb);have n1_ := Aside0.mk (Kd.R_below (Kd.Rz HO882.out) hb);have n2_ := Aside0.mk (Kd.R_below (Kd.Rz HO886.out) hb);have n3_ := Aside0.mk (Kd.R_below (Kd.Rz HO888.out) hb);have n4_ := Aside0.mk (below_step bz hb);clear HO_6;clear HO882;clear HO886;clear HO888;clear HB;have HO_6 := n0_;have HO882 := n1_;have HO886 := n2_;have HO888 := n3_;have HB := n4_;clear n0_ n1_ n2_ n3_ n4_;(try clear hb);(try clear hb2);(try clear hk);(try clear hi);obtain ⟨Ao107,co107,eo107⟩ := Kd.R_slice HO_6.out;subst eo107)|((with_reducible refine gate_callee (f := 21) rfl ?_);refine goesL_ (some 74) rfl rfl Try.func21 (by kernel_rfl) rfl #[.slice Ao107 t868.length co107] rfl az ?_;(with_reducible refine (impl_OrdValid.calls kj8 _ _ t868 false _ ?side1 ?side2 A24.out).mono ?_);(case side1 => exact Kd.Cz (Kd.R_reads' HO_6.out).2.2);(case side2 => exact (Kd.R_reads' HO_6.out).2.1);rintro e w108 ⟨rfl,hb⟩;refine ⟨_,rfl,?_⟩;have n0_ := Aside0.mk (Kd.R_below (Kd.Rz HO_6.out) hb);have n1_ := Aside0.mk (Kd.R_below (Kd.Rz HO882.out) hb);have n2_ := Aside0.mk (Kd.R_below (Kd.Rz HO886.out) hb);have n3_ := Aside0.mk (Kd.R_below (Kd.Rz HO888.out) hb);have n4_ := Aside0.mk (below_step bz hb);clear HO_6;clear HO882;clear HO886;clear HO888;clear HB;have HO_6 := n0_;have HO882 := n1_;have HO886 := n2_;have HO888 := n3_;have HB := n4_;clear n0_ n1_ n2_ n3_ n4_;(try clear hb);(try clear hb2);(try clear hk);(try clear hi)))
         go_ret
         exact ⟨by first|rfl|(simp [errW_none,errW_some] <;> rfl)|(simp [*,errW_none,errW_some] <;> rfl),bz⟩
       ·replace c20 := Bool.eq_false_iff.mpr c20
        subst c20
        have H1 : (if (t868.length : Int) = 0 then (if t867 < 0 then ((laws_alive.f kj8).bind fun t877 => (some t877)) else (if t867 > 9 then ((laws_alive.f kj8).bind fun t878 => (some t878)) else (some false))) else (some false)) = some r := by rw [if_neg (show ¬ (false = true) by decide)] at H;exact H
        clear H
        have H := H1
        clear H1
        by_cases c109 : (t868.length : Int) = 0
        ·rw [if_pos c109] at H
         have c109b0 : ((t868.length : Int) == 0) = true := beq_iff_eq.mpr c109
         have c109b1 : ((t868.length : Int) != 0) = false := bne_eq_false_iff_eq.mpr c109
         clear c109
         by_cases c110 : t867 < 0
         ·rw [if_pos c110] at H
          have c110b0 : decide (t867 < 0) = true := decide_eq_true c110
          clear c110
          replace H := Option.bind_eq_some_iff.mp H
          obtain ⟨t877,A1110,H⟩ := H
          replace H : (some t877) = some r := H
          have A111 := Aside0.mk A1110
          clear A1110
          obtain rfl := Option.some.inj H
          obtain ⟨Ao112,co112,eo112⟩ := Kd.R_slice HO_6.out
          subst eo112
          go_wp2_with (first|(go_at_call 19;(with_reducible refine (laws_alive.calls kj8  t877 _ A111.out).mono ?_);rintro e w113 ⟨rfl,hb⟩;have n0_ := Aside0.mk (Kd.R_below (Kd.Rz HO_6.out) hb);have n1_ := Aside0.mk (below_step bz hb);clear HO_6;clear HB;have HO_6 := n0_;have HB := n1_;clear n0_ n1_;(try clear hb);(try clear hb2);(try clear hk);(try clear hi)))
          go_ret
          exact ⟨by first|rfl|(simp [errW_none,errW_some] <;> rfl)|(simp [*,errW_none,errW_some] <;> rfl),bz⟩
         ·rw [if_neg c110] at H
          have c110b0 : decide (t867 < 0) = false := decide_eq_false c110
          clear c110
          by_cases c114 : t867 > 9
          ·rw [if_pos c114] at H
           have c114b0 : decide (9 < t867) = true := decide_eq_true c114
           clear c114
           replace H := Option.bind_eq_some_iff.mp H
           obtain ⟨t878,A1150,H⟩ := H
           replace H : (some t878) = some r := H
           have A115 := Aside0.mk A1150
           clear A1150
           obtain rfl := Option.some.inj H
           obtain ⟨Ao116,co116,eo116⟩ := Kd.R_slice HO_6.out
           subst eo116
           go_wp2_with (first|(go_at_call 19;(with_reducible refine (laws_alive.calls kj8  t878 _ A115.out).mono ?_);rintro e w117 ⟨rfl,hb⟩;have n0_ := Aside0.mk (Kd.R_below (Kd.Rz HO_6.out) hb);have n1_ := Aside0.mk (below_step bz hb);clear HO_6;clear HB;have HO_6 := n0_;have HB := n1_;clear n0_ n1_;(try clear hb);(try clear hb2);(try clear hk);(try clear hi)))
           go_ret
           exact ⟨by first|rfl|(simp [errW_none,errW_some] <;> rfl)|(simp [*,errW_none,errW_some] <;> rfl),bz⟩
          ·rw [if_neg c114] at H
           have c114b0 : decide (9 < t867) = false := decide_eq_false c114
           clear c114
           obtain rfl := Option.some.inj H
           obtain ⟨Ao118,co118,eo118⟩ := Kd.R_slice HO_6.out
           subst eo118
           go_wp2
           go_ret
           exact ⟨by first|rfl|(simp [errW_none,errW_some] <;> rfl)|(simp [*,errW_none,errW_some] <;> rfl),bz⟩
        ·rw [if_neg c109] at H
         have c109b0 : ((t868.length : Int) == 0) = false := beq_eq_false_iff_ne.mpr c109
         have c109b1 : ((t868.length : Int) != 0) = true := bne_iff_ne.mpr c109
         have c109b2 : ¬ (t868 = []) := fun h_ => c109 (by rw [h_];rfl)
         obtain rfl := Option.some.inj H
         obtain ⟨Ao119,co119,eo119⟩ := Kd.R_slice HO_6.out
         subst eo119
         go_wp2
         go_ret
         exact ⟨by first|rfl|(simp [errW_none,errW_some] <;> rfl)|(simp [*,errW_none,errW_some] <;> rfl),bz⟩

/-- THE ONE PURE STATEMENT of laws_FnOrdTower: yours. -/
def laws_FnOrdTower.Pure : Prop := ∀ (l0 : List Int) (l1 : List Int),l0.length ≤ maxLen → l0.length * 1 ≤ 140737488351232 → (∀ x ∈ l0,(Lit.int .u8 x).wf = true) → l1.length ≤ maxLen → l1.length * 1 ≤ 140737488351232 → (∀ x ∈ l1,(Lit.int .u8 x).wf = true) → ∃ k,laws_FnOrdTower.f k l0 l1 = some true
theorem laws_FnOrdTower.walk (P : laws_FnOrdTower.Pure) (a0 : Option Addr) (len0 cap0 : Nat) (z0 : List Int) (a1 : Option Addr) (len1 cap1 : Nat) (z1 : List Int) (w : World) (w0 : (a0 = none ∧ len0 = 0 ∧ cap0 = 0 ∧ z0 = []) ∨ ∃ x,a0 = some x ∧ len0 ≤ cap0 ∧ cap0 ≤ maxLen ∧ z0.length = cap0 ∧ (∀ i,i < z0.length → w.cell? (x.add i) = some (.int .u8 (z0.getD i 0))) ∧ ∀ n ∈ z0,(Lit.int .u8 n).wf = true) (y0 : len0 * 1 ≤ 140737488351232) (w1 : (a1 = none ∧ len1 = 0 ∧ cap1 = 0 ∧ z1 = []) ∨ ∃ x,a1 = some x ∧ len1 ≤ cap1 ∧ cap1 ≤ maxLen ∧ z1.length = cap1 ∧ (∀ i,i < z1.length → w.cell? (x.add i) = some (.int .u8 (z1.getD i 0))) ∧ ∀ n ∈ z1,(Lit.int .u8 n).wf = true) (y1 : len1 * 1 ≤ 140737488351232) :
  Calls Try.prog 9 #[.slice a0 len0 cap0,.slice a1 len1 cap1] w fun e w' => e = .returned (.bool true) ∧ Below w.heap.size w w' := by
 obtain ⟨l0,rfl,hr0,hm0,hw0,hc0⟩ := ReadsInt.ofRowC w0
 obtain ⟨l1,rfl,hr1,hm1,hw1,hc1⟩ := ReadsInt.ofRowC w1
 obtain ⟨k,h⟩ := P l0 l1 hm0 y0 hw0 hm1 y1 hw1
 refine (laws_FnOrdTower.calls k _ _ l0 _ _ l1 true w (Kd.C_of_reads (d := (0 : Int)) (h1 := fun _ => rfl) hr0) hc0 (Kd.C_of_reads (d := (0 : Int)) (h1 := fun _ => rfl) hr1) hc1 h).mono ?_
 rintro e w' ⟨rfl,hd⟩
 exact ⟨rfl,hd⟩

end Go.Proofs.Ytninfokihgbgpaa.P
