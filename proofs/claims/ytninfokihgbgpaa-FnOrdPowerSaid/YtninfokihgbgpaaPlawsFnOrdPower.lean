/- The walk of one Go function that the law reaches: it comes to what the Lean function of its name tells. -/
import Derived.Test.YtninfokihgbgpaaP0
import Derived.Test.YtninfokihgbgpaaPimplOrdCompare
import Derived.Test.YtninfokihgbgpaaPimplOrdDepth
import Derived.Test.YtninfokihgbgpaaPimplOrdPower
import Derived.Test.YtninfokihgbgpaaPimplOrdValid
import Derived.Test.YtninfokihgbgpaaPlawsalive
import Derived.Test.YtninfokihgbgpaaPlawssameInts
import Derived.Test.YtninfokihgbgpaaPspecDrawOrdPower
import Derived.Test.YtninfokihgbgpaaPspecOrdPower
namespace Go.Proofs.Ytninfokihgbgpaa.P
open Go.RowKit Go.Proofs.YtninfokihgbgpaaW.PrintWords Go.Proofs.YtninfokihgbgpaaW.PrintLast Go.Proofs.YtninfokihgbgpaaW.PrintMore
attribute [local go_sem] max2_int min2_int max_two min_two max_three min_three max_four min_four   
set_option linter.unusedVariables false
set_option linter.unusedSimpArgs false

/-! ### laws_FnOrdPower: function 10 -/
mutual
def laws_FnOrdPower.j0 : Nat → List Int → List Int → Bool → Option (Bool)
 | 0,_,_,_ => none
 | k + 1,x0,x1,x20 => if x20 = true then (some true) else ((spec_DrawOrdPower.f k x0).bind fun t927 => ((impl_OrdPower.f k t927).bind fun bt930 => ((spec_OrdPower.f k t927).bind fun bt934 => ((laws_sameInts.f k bt930.1 bt934.1).bind fun t938 => (if t938 = true then (laws_FnOrdPower.j1 k x1 t927 bt930.1 bt930.2 (bt930.2 != bt934.2)) else (laws_FnOrdPower.j1 k x1 t927 bt930.1 bt930.2 true))))))
def laws_FnOrdPower.j1 : Nat → List Int → List Int → List Int → Bool → Bool → Option (Bool)
 | 0,_,_,_,_,_ => none
 | k + 1,x1,x5,x6,x7,x41 => if x41 = true then (some false) else (if x7 = true then ((spec_DrawOrdPower.f k x1).bind fun t940 => ((impl_OrdPower.f k t940).bind fun bt943 => ((impl_OrdValid.f k x6).bind fun t947 => (if t947 = true then ((impl_OrdCompare.f k x5 x6).bind fun t948 => (if t948 = (-1) then (if bt943.2 = true then ((impl_OrdCompare.f k x6 bt943.1).bind fun t949 => ((impl_OrdCompare.f k x5 t940).bind fun t950 => (if t949 = t950 then ((impl_OrdDepth.f k x6).bind fun t951 => ((impl_OrdDepth.f k x5).bind fun t952 => (some (t951 == (wrap64 (t952 + 1)))))) else (some false)))) else ((impl_OrdDepth.f k x6).bind fun t953 => ((impl_OrdDepth.f k x5).bind fun t954 => (some (t953 == (wrap64 (t954 + 1))))))) else (some false))) else (some false))))) else (if (x6.length : Int) = 0 then ((laws_alive.f k).bind fun t939 => (some t939)) else (some false)))
end
def laws_FnOrdPower.f (k : Nat) (l0 : List Int) (l1 : List Int) : Option (Bool) := if (l0.length : Int) > 1048576 then (laws_FnOrdPower.j0 k l0 l1 true) else (laws_FnOrdPower.j0 k l0 l1 (decide ((l1.length : Int) > 1048576)))
theorem laws_FnOrdPower.mono_l : ∀ k,(∀ y0 y1 y2,LeO (laws_FnOrdPower.j0 k y0 y1 y2) (laws_FnOrdPower.j0 (k + 1) y0 y1 y2)) ∧ (∀ y0 y1 y2 y3 y4,LeO (laws_FnOrdPower.j1 k y0 y1 y2 y3 y4) (laws_FnOrdPower.j1 (k + 1) y0 y1 y2 y3 y4))
 | 0 => ⟨fun _ _ _ r h => by simp [laws_FnOrdPower.j0] at h,fun _ _ _ _ _ r h => by simp [laws_FnOrdPower.j1] at h⟩
 | k + 1 => by
  obtain ⟨ih0,ih1⟩ := laws_FnOrdPower.mono_l k
  refine ⟨?_,?_⟩
  ·intro y0 y1 y2
   unfold laws_FnOrdPower.j0
   repeat' first|(with_reducible first|exact ih0 _ _ _|exact ih1 _ _ _ _ _|exact impl_OrdPower.mono _ _|exact laws_sameInts.mono _ _ _|exact spec_DrawOrdPower.mono _ _|exact spec_OrdPower.mono _ _|exact LeO.refl _|exact LeO.none _|refine LeO.ite ?_ ?_|refine LeO.bind ?_ (fun _ => ?_))|exact ih0 _ _ _|exact ih1 _ _ _ _ _|exact impl_OrdPower.mono _ _|exact laws_sameInts.mono _ _ _|exact spec_DrawOrdPower.mono _ _|exact spec_OrdPower.mono _ _|exact LeO.none _|refine LeO.ite ?_ ?_|refine LeO.bind ?_ (fun _ => ?_)
  ·intro y0 y1 y2 y3 y4
   unfold laws_FnOrdPower.j1
   repeat' first|(with_reducible first|exact ih1 _ _ _ _ _|exact impl_OrdCompare.mono _ _ _|exact impl_OrdDepth.mono _ _|exact impl_OrdPower.mono _ _|exact impl_OrdValid.mono _ _|exact laws_alive.mono _|exact spec_DrawOrdPower.mono _ _|exact LeO.refl _|exact LeO.none _|refine LeO.ite ?_ ?_|refine LeO.bind ?_ (fun _ => ?_))|exact ih1 _ _ _ _ _|exact impl_OrdCompare.mono _ _ _|exact impl_OrdDepth.mono _ _|exact impl_OrdPower.mono _ _|exact impl_OrdValid.mono _ _|exact laws_alive.mono _|exact spec_DrawOrdPower.mono _ _|exact LeO.none _|refine LeO.ite ?_ ?_|refine LeO.bind ?_ (fun _ => ?_)
theorem laws_FnOrdPower.mono : ∀ a0 a1 k,LeO (laws_FnOrdPower.f k a0 a1) (laws_FnOrdPower.f (k + 1) a0 a1) := by
 intro a0 a1 k
 obtain ⟨ih0,ih1⟩ := laws_FnOrdPower.mono_l k
 unfold laws_FnOrdPower.f
 repeat' first|(with_reducible first|exact ih0 _ _ _|exact ih1 _ _ _ _ _|exact LeO.refl _|exact LeO.none _|refine LeO.ite ?_ ?_|refine LeO.bind ?_ (fun _ => ?_))|exact ih0 _ _ _|exact ih1 _ _ _ _ _|exact LeO.none _|refine LeO.ite ?_ ?_|refine LeO.bind ?_ (fun _ => ?_)
set_option maxHeartbeats 8000000 in
set_option maxRecDepth 100000 in
theorem laws_FnOrdPower.calls (k : Nat) (A0 : Option Addr) (c0 : Nat) (l0 : List Int) (A1 : Option Addr) (c1 : Nat) (l1 : List Int) (r : Bool) (w : World) (hr0 : Kd.C (Kd.int .u8) w A0 l0.length l0) (hc0 : l0.length ≤ c0) (hr1 : Kd.C (Kd.int .u8) w A1 l1.length l1) (hc1 : l1.length ≤ c1) (h : laws_FnOrdPower.f k l0 l1 = some r) :
  Calls Try.prog 10 #[.slice A0 l0.length c0,.slice A1 l1.length c1] w fun e w' => e = .returned (.bool r) ∧ Below w.heap.size w w' := by
 have HR0 := Aside0.mk hr0
 have HC0 := Aside0.mk hc0
 clear hr0 hc0
 have HR1 := Aside0.mk hr1
 have HC1 := Aside0.mk hc1
 clear hr1 hc1
 have HB := Aside0.mk (Below.refl w.heap.size w)
 have H : (if (l0.length : Int) > 1048576 then (laws_FnOrdPower.j0 k l0 l1 true) else (laws_FnOrdPower.j0 k l0 l1 (decide ((l1.length : Int) > 1048576)))) = some r := h
 clear h
 have HC3 := Aside0.mk H
 clear H
 go_enter Try.func10,Try.ntmps10
 go_upto_region 1 with (fail)
 go_cut [20] (fun v20 wc => ∃ (kq : Nat) (x20_2 : Bool),v20 = .bool x20_2 ∧ Aside0 (laws_FnOrdPower.j0 kq l0 l1 x20_2 = some r) ∧ Aside0 (kq ≤ k) ∧ Aside0 (Below w.heap.size w wc))
 case first =>
  have H := HC3.out
  clear HC3
  by_cases c4 : (l0.length : Int) > 1048576
  ·rw [if_pos c4] at H
   have c4b0 : decide (1048576 < (l0.length : Int)) = true := decide_eq_true c4
   have c4b1 : decide (1048576 < l0.length) = true := decide_eq_true (by omega)
   clear c4
   (first|rw [c4b0]|(simp only [i64_w,i32_w];rw [c4b0])|skip)
   have H' := Aside0.mk H
   clear H
   go_wp2
   go_meet
   case rel => exact ⟨_,(true),(by first|rfl|(simp;done)|(simp [*];done)),H',⟨by first|omega|exact Nat.le_refl _⟩,⟨bz⟩⟩
  ·rw [if_neg c4] at H
   have c4b0 : decide (1048576 < (l0.length : Int)) = false := decide_eq_false c4
   have c4b1 : decide (1048576 < l0.length) = false := decide_eq_false (by omega)
   clear c4
   (first|rw [c4b0]|(simp only [i64_w,i32_w];rw [c4b0])|skip)
   have H' := Aside0.mk H
   clear H
   go_wp2
   go_meet
   case rel => exact ⟨_,(decide ((l1.length : Int) > 1048576)),(by first|rfl|(simp;done)|(simp [*];done)),H',⟨by first|omega|exact Nat.le_refl _⟩,⟨bz⟩⟩
 case rest =>
  clear HC3
  try clear c1
  try clear p2
  try clear c4
  try clear c4b0
  try clear c4b1
  obtain ⟨kq,x20_2,rfl,HA,HJ2,HB⟩ := hcut
  cases kq with
  | zero => exact absurd HA.out (by simp [laws_FnOrdPower.j0])
  | succ kj2 =>
   have H := HA.out
   clear HA
   simp only [laws_FnOrdPower.j0] at H
   by_cases c5 : x20_2 = true
   ·subst c5
    have H1 : (some true) = some r := by rw [if_pos rfl] at H;exact H
    clear H
    have H := H1
    clear H1
    obtain rfl := Option.some.inj H
    go_wp2
    go_ret
    exact ⟨by first|rfl|(simp [errW_none,errW_some] <;> rfl)|(simp [*,errW_none,errW_some] <;> rfl),bz⟩
   ·replace c5 := Bool.eq_false_iff.mpr c5
    subst c5
    have H1 : ((spec_DrawOrdPower.f kj2 l0).bind fun t927 => ((impl_OrdPower.f kj2 t927).bind fun bt930 => ((spec_OrdPower.f kj2 t927).bind fun bt934 => ((laws_sameInts.f kj2 bt930.1 bt934.1).bind fun t938 => (if t938 = true then (laws_FnOrdPower.j1 kj2 l1 t927 bt930.1 bt930.2 (bt930.2 != bt934.2)) else (laws_FnOrdPower.j1 kj2 l1 t927 bt930.1 bt930.2 true)))))) = some r := by rw [if_neg (show ¬ (false = true) by decide)] at H;exact H
    clear H
    have H := H1
    clear H1
    replace H := Option.bind_eq_some_iff.mp H
    obtain ⟨t927,A60,H⟩ := H
    replace H : ((impl_OrdPower.f kj2 t927).bind fun bt930 => ((spec_OrdPower.f kj2 t927).bind fun bt934 => ((laws_sameInts.f kj2 bt930.1 bt934.1).bind fun t938 => (if t938 = true then (laws_FnOrdPower.j1 kj2 l1 t927 bt930.1 bt930.2 (bt930.2 != bt934.2)) else (laws_FnOrdPower.j1 kj2 l1 t927 bt930.1 bt930.2 true))))) = some r := H
    have A6 := Aside0.mk A60
    clear A60
    replace H := Option.bind_eq_some_iff.mp H
    obtain ⟨⟨t930,t931⟩,A70,H⟩ := H
    replace H : ((spec_OrdPower.f kj2 t927).bind fun bt934 => ((laws_sameInts.f kj2 t930 bt934.1).bind fun t938 => (if t938 = true then (laws_FnOrdPower.j1 kj2 l1 t927 t930 t931 (t931 != bt934.2)) else (laws_FnOrdPower.j1 kj2 l1 t927 t930 t931 true)))) = some r := H
    have A7 := Aside0.mk A70
    clear A70
    replace H := Option.bind_eq_some_iff.mp H
    obtain ⟨⟨t934,t935⟩,A80,H⟩ := H
    replace H : ((laws_sameInts.f kj2 t930 t934).bind fun t938 => (if t938 = true then (laws_FnOrdPower.j1 kj2 l1 t927 t930 t931 (t931 != t935)) else (laws_FnOrdPower.j1 kj2 l1 t927 t930 t931 true))) = some r := H
    have A8 := Aside0.mk A80
    clear A80
    have HC9 := Aside0.mk H
    clear H
    go_upto_region 6 with (first|((with_reducible refine gate_callee (f := 41) rfl ?_);refine goesL_ (some 22) rfl rfl Try.func41 (by kernel_rfl) rfl #[.slice A0 l0.length c0] rfl az ?_;(with_reducible refine (spec_DrawOrdPower.calls kj2 _ _ l0 t927 _ ?side1 ?side2 A6.out).mono ?_);(case side1 => exact Kd.Cz (Kd.C_below HR0.out HB.out));(case side2 => exact HC0.out);rintro e w10 ⟨v928,rfl,ho0,hb⟩;refine ⟨_,rfl,?_⟩;have n0_ := Aside0.mk (Kd.R_lower ho0 (below_size bz));have n1_ := Aside0.mk (below_step bz hb);clear HB;have HO929 := n0_;have HB := n1_;clear n0_ n1_;(try clear hb);(try clear hb2);(try clear hk);(try clear hi);(try clear ho0);obtain ⟨Ao11,co11,eo11⟩ := Kd.R_slice HO929.out;subst eo11)|((with_reducible refine gate_callee (f := 42) rfl ?_);refine goesL_ (some 25) rfl rfl Try.func42 (by kernel_rfl) rfl #[.slice Ao11 t927.length co11] rfl az ?_;(with_reducible refine (impl_OrdPower.calls kj2 _ _ t927 t930 t931 _ ?side1 ?side2 A7.out).mono ?_);(case side1 => exact Kd.Cz (Kd.R_reads' HO929.out).2.2);(case side2 => exact (Kd.R_reads' HO929.out).2.1);rintro e w12 ⟨v932,rfl,ho0,hb⟩;refine ⟨_,rfl,?_⟩;have n0_ := Aside0.mk (Kd.R_elder' (Kd.Rz HO929.out) (Kd.R_base ho0) hb);have n1_ := Aside0.mk (Kd.R_lower (Kd.R_new' ho0 (Kd.R_lt (Kd.Rz HO929.out))) (below_size bz));have n2_ := Aside0.mk (below_step bz hb);clear HO929;clear HB;have HO929 := n0_;have HO933 := n1_;have HB := n2_;clear n0_ n1_ n2_;(try clear hb);(try clear hb2);(try clear hk);(try clear hi);(try clear ho0))|((with_reducible refine gate_callee (f := 43) rfl ?_);refine goesL_ (some 30) rfl rfl Try.func43 (by kernel_rfl) rfl #[.slice Ao11 t927.length co11] rfl az ?_;(with_reducible refine (spec_OrdPower.calls kj2 _ _ t927 t934 t935 _ ?side1 ?side2 A8.out).mono ?_);(case side1 => exact Kd.Cz (Kd.R_reads' HO929.out).2.2);(case side2 => exact (Kd.R_reads' HO929.out).2.1);rintro e w13 ⟨v936,rfl,ho0,hb⟩;refine ⟨_,rfl,?_⟩;have n0_ := Aside0.mk (Kd.R_elder' (Kd.Rz HO929.out) (Kd.R_base ho0) hb);have n1_ := Aside0.mk (Kd.R_elder' (Kd.Rz HO933.out) (Kd.R_base ho0) hb);have n2_ := Aside0.mk (Kd.R_lower (Kd.R_new' (Kd.R_new' ho0 (Kd.R_lt (Kd.Rz HO929.out))) (Kd.R_lt (Kd.Rz HO933.out))) (below_size bz));have n3_ := Aside0.mk (below_step bz hb);clear HO929;clear HO933;clear HB;have HO929 := n0_;have HO933 := n1_;have HO937 := n2_;have HB := n3_;clear n0_ n1_ n2_ n3_;(try clear hb);(try clear hb2);(try clear hk);(try clear hi);(try clear ho0)))
    (try simp only [Act.put,List.setIfInBounds_toArray,List.set_cons_zero,List.set_cons_succ])
    go_cut [41] (fun v41 wc => ∃ (kq : Nat) (x41_8 : Bool),v41 = .bool x41_8 ∧ Aside0 (laws_FnOrdPower.j1 kq l1 t927 t930 t931 x41_8 = some r) ∧ Aside0 (kq ≤ kj2) ∧ Aside0 (Kd.R (Kd.int .i64) 3 wc w.heap.size (fun k_ => some k_ ≠ (v932 : Value).ownBlock) (.slice Ao11 t927.length co11) t927) ∧ Aside0 (Kd.R (Kd.int .i64) 3 wc w.heap.size (fun k_ => some k_ ≠ ((.slice Ao11 t927.length co11) : Value).ownBlock) v932 t930) ∧ Aside0 (Below w.heap.size w wc))
    case first =>
     have H := HC9.out
     clear HC9
     replace H := Option.bind_eq_some_iff.mp H
     obtain ⟨t938,A140,H⟩ := H
     replace H : (if t938 = true then (laws_FnOrdPower.j1 kj2 l1 t927 t930 t931 (t931 != t935)) else (laws_FnOrdPower.j1 kj2 l1 t927 t930 t931 true)) = some r := H
     have A14 := Aside0.mk A140
     clear A140
     by_cases c15 : t938 = true
     ·subst c15
      have H1 : (laws_FnOrdPower.j1 kj2 l1 t927 t930 t931 (t931 != t935)) = some r := by rw [if_pos rfl] at H;exact H
      clear H
      have H := H1
      clear H1
      have H' := Aside0.mk H
      clear H
      obtain ⟨Ao16,co16,eo16⟩ := Kd.R_slice HO933.out
      subst eo16
      obtain ⟨Ao17,co17,eo17⟩ := Kd.R_slice HO937.out
      subst eo17
      go_wp2_with (first|((with_reducible refine gate_callee (f := 17) rfl ?_);refine goesL_ (some 35) rfl rfl Try.func17 (by kernel_rfl) rfl #[.slice Ao16 t930.length co16,.slice Ao17 t934.length co17] rfl az ?_;(with_reducible refine (laws_sameInts.calls kj2 _ _ t930 _ _ t934 true _ ?side1 ?side2 ?side3 ?side4 A14.out).mono ?_);(case side1 => exact Kd.Cz (Kd.R_reads' HO933.out).2.2);(case side2 => exact (Kd.R_reads' HO933.out).2.1);(case side3 => exact Kd.Cz (Kd.R_reads' HO937.out).2.2);(case side4 => exact (Kd.R_reads' HO937.out).2.1);rintro e w' ⟨rfl,⟨nd,rfl⟩⟩;refine ⟨_,rfl,?_⟩))
      go_meet
      case rel => exact ⟨_,((t931 != t935)),(by first|rfl|(simp;done)|(simp [*];done)),H',⟨by have := HJ2.out;first|omega|exact Nat.le_refl _⟩,⟨by (with_reducible repeat (first|apply Kd.R_alloc|apply Kd.R_drewN|apply Kd.R_drew));exact Kd.R_mono HO929.out (fun _ hk => hk.1.2)⟩,⟨by (with_reducible repeat (first|apply Kd.R_alloc|apply Kd.R_drewN|apply Kd.R_drew));exact Kd.R_mono HO933.out (fun _ hk => hk.1.2)⟩,⟨bz⟩⟩
     ·replace c15 := Bool.eq_false_iff.mpr c15
      subst c15
      have H1 : (laws_FnOrdPower.j1 kj2 l1 t927 t930 t931 true) = some r := by rw [if_neg (show ¬ (false = true) by decide)] at H;exact H
      clear H
      have H := H1
      clear H1
      have H' := Aside0.mk H
      clear H
      obtain ⟨Ao18,co18,eo18⟩ := Kd.R_slice HO933.out
      subst eo18
      obtain ⟨Ao19,co19,eo19⟩ := Kd.R_slice HO937.out
      subst eo19
      go_wp2_with (first|((with_reducible refine gate_callee (f := 17) rfl ?_);refine goesL_ (some 35) rfl rfl Try.func17 (by kernel_rfl) rfl #[.slice Ao18 t930.length co18,.slice Ao19 t934.length co19] rfl az ?_;(with_reducible refine (laws_sameInts.calls kj2 _ _ t930 _ _ t934 false _ ?side1 ?side2 ?side3 ?side4 A14.out).mono ?_);(case side1 => exact Kd.Cz (Kd.R_reads' HO933.out).2.2);(case side2 => exact (Kd.R_reads' HO933.out).2.1);(case side3 => exact Kd.Cz (Kd.R_reads' HO937.out).2.2);(case side4 => exact (Kd.R_reads' HO937.out).2.1);rintro e w' ⟨rfl,⟨nd,rfl⟩⟩;refine ⟨_,rfl,?_⟩))
      go_meet
      case rel => exact ⟨_,(true),(by first|rfl|(simp;done)|(simp [*];done)),H',⟨by have := HJ2.out;first|omega|exact Nat.le_refl _⟩,⟨by (with_reducible repeat (first|apply Kd.R_alloc|apply Kd.R_drewN|apply Kd.R_drew));exact Kd.R_mono HO929.out (fun _ hk => hk.1.2)⟩,⟨by (with_reducible repeat (first|apply Kd.R_alloc|apply Kd.R_drewN|apply Kd.R_drew));exact Kd.R_mono HO933.out (fun _ hk => hk.1.2)⟩,⟨bz⟩⟩
    case rest =>
     clear HC9
     try clear c1
     try clear p2
     try clear c4
     try clear c4b0
     try clear c4b1
     try clear c5
     try clear c10
     try clear c15
     try clear c17
     try clear p2
     obtain ⟨kq,x41_8,rfl,HA,HJ8,HO_5,HO_6,HB⟩ := hcut
     cases kq with
     | zero => exact absurd HA.out (by simp [laws_FnOrdPower.j1])
     | succ kj8 =>
      have H := HA.out
      clear HA
      simp only [laws_FnOrdPower.j1] at H
      by_cases c20 : x41_8 = true
      ·subst c20
       have H1 : (some false) = some r := by rw [if_pos rfl] at H;exact H
       clear H
       have H := H1
       clear H1
       obtain rfl := Option.some.inj H
       go_wp2
       go_ret
       exact ⟨by first|rfl|(simp [errW_none,errW_some] <;> rfl)|(simp [*,errW_none,errW_some] <;> rfl),bz⟩
      ·replace c20 := Bool.eq_false_iff.mpr c20
       subst c20
       have H1 : (if t931 = true then ((spec_DrawOrdPower.f kj8 l1).bind fun t940 => ((impl_OrdPower.f kj8 t940).bind fun bt943 => ((impl_OrdValid.f kj8 t930).bind fun t947 => (if t947 = true then ((impl_OrdCompare.f kj8 t927 t930).bind fun t948 => (if t948 = (-1) then (if bt943.2 = true then ((impl_OrdCompare.f kj8 t930 bt943.1).bind fun t949 => ((impl_OrdCompare.f kj8 t927 t940).bind fun t950 => (if t949 = t950 then ((impl_OrdDepth.f kj8 t930).bind fun t951 => ((impl_OrdDepth.f kj8 t927).bind fun t952 => (some (t951 == (wrap64 (t952 + 1)))))) else (some false)))) else ((impl_OrdDepth.f kj8 t930).bind fun t953 => ((impl_OrdDepth.f kj8 t927).bind fun t954 => (some (t953 == (wrap64 (t954 + 1))))))) else (some false))) else (some false))))) else (if (t930.length : Int) = 0 then ((laws_alive.f kj8).bind fun t939 => (some t939)) else (some false))) = some r := by rw [if_neg (show ¬ (false = true) by decide)] at H;exact H
       clear H
       have H := H1
       clear H1
       by_cases c21 : t931 = true
       ·subst c21
        have H1 : ((spec_DrawOrdPower.f kj8 l1).bind fun t940 => ((impl_OrdPower.f kj8 t940).bind fun bt943 => ((impl_OrdValid.f kj8 t930).bind fun t947 => (if t947 = true then ((impl_OrdCompare.f kj8 t927 t930).bind fun t948 => (if t948 = (-1) then (if bt943.2 = true then ((impl_OrdCompare.f kj8 t930 bt943.1).bind fun t949 => ((impl_OrdCompare.f kj8 t927 t940).bind fun t950 => (if t949 = t950 then ((impl_OrdDepth.f kj8 t930).bind fun t951 => ((impl_OrdDepth.f kj8 t927).bind fun t952 => (some (t951 == (wrap64 (t952 + 1)))))) else (some false)))) else ((impl_OrdDepth.f kj8 t930).bind fun t953 => ((impl_OrdDepth.f kj8 t927).bind fun t954 => (some (t953 == (wrap64 (t954 + 1))))))) else (some false))) else (some false))))) = some r := by rw [if_pos rfl] at H;exact H
        clear H
        have H := H1
        clear H1
        replace H := Option.bind_eq_some_iff.mp H
        obtain ⟨t940,A220,H⟩ := H
        replace H : ((impl_OrdPower.f kj8 t940).bind fun bt943 => ((impl_OrdValid.f kj8 t930).bind fun t947 => (if t947 = true then ((impl_OrdCompare.f kj8 t927 t930).bind fun t948 => (if t948 = (-1) then (if bt943.2 = true then ((impl_OrdCompare.f kj8 t930 bt943.1).bind fun t949 => ((impl_OrdCompare.f kj8 t927 t940).bind fun t950 => (if t949 = t950 then ((impl_OrdDepth.f kj8 t930).bind fun t951 => ((impl_OrdDepth.f kj8 t927).bind fun t952 => (some (t951 == (wrap64 (t952 + 1)))))) else (some false)))) else ((impl_OrdDepth.f kj8 t930).bind fun t953 => ((impl_OrdDepth.f kj8 t927).bind fun t954 => (some (t953 == (wrap64 (t954 + 1))))))) else (some false))) else (some false)))) = some r := H
        have A22 := Aside0.mk A220
        clear A220
        replace H := Option.bind_eq_some_iff.mp H
        obtain ⟨⟨t943,t944⟩,A230,H⟩ := H
        replace H : ((impl_OrdValid.f kj8 t930).bind fun t947 => (if t947 = true then ((impl_OrdCompare.f kj8 t927 t930).bind fun t948 => (if t948 = (-1) then (if t944 = true then ((impl_OrdCompare.f kj8 t930 t943).bind fun t949 => ((impl_OrdCompare.f kj8 t927 t940).bind fun t950 => (if t949 = t950 then ((impl_OrdDepth.f kj8 t930).bind fun t951 => ((impl_OrdDepth.f kj8 t927).bind fun t952 => (some (t951 == (wrap64 (t952 + 1)))))) else (some false)))) else ((impl_OrdDepth.f kj8 t930).bind fun t953 => ((impl_OrdDepth.f kj8 t927).bind fun t954 => (some (t953 == (wrap64 (t954 + 1))))))) else (some false))) else (some false))) = some r := H
        have A23 := Aside0.mk A230
        clear A230
        replace H := Option.bind_eq_some_iff.mp H
        obtain ⟨t947,A240,H⟩ := H
        replace H : (if t947 = true then ((impl_OrdCompare.f kj8 t927 t930).bind fun t948 => (if t948 = (-1) then (if t944 = true then ((impl_OrdCompare.f kj8 t930 t943).bind fun t949 => ((impl_OrdCompare.f kj8 t927 t940).bind fun t950 => (if t949 = t950 then ((impl_OrdDepth.f kj8 t930).bind fun t951 => ((impl_OrdDepth.f kj8 t927).bind fun t952 => (some (t951 == (wrap64 (t952 + 1)))))) else (some false)))) else ((impl_OrdDepth.f kj8 t930).bind fun t953 => ((impl_OrdDepth.f kj8 t927).bind fun t954 => (some (t953 == (wrap64 (t954 + 1))))))) else (some false))) else (some false)) = some r := H
        have A24 := Aside0.mk A240
        clear A240
        by_cases c25 : t947 = true
        ·subst c25
         have H1 : ((impl_OrdCompare.f kj8 t927 t930).bind fun t948 => (if t948 = (-1) then (if t944 = true then ((impl_OrdCompare.f kj8 t930 t943).bind fun t949 => ((impl_OrdCompare.f kj8 t927 t940).bind fun t950 => (if t949 = t950 then ((impl_OrdDepth.f kj8 t930).bind fun t951 => ((impl_OrdDepth.f kj8 t927).bind fun t952 => (some (t951 == (wrap64 (t952 + 1)))))) else (some false)))) else ((impl_OrdDepth.f kj8 t930).bind fun t953 => ((impl_OrdDepth.f kj8 t927).bind fun t954 => (some (t953 == (wrap64 (t954 + 1))))))) else (some false))) = some r := by rw [if_pos rfl] at H;exact H
         clear H
         have H := H1
         clear H1
         replace H := Option.bind_eq_some_iff.mp H
         obtain ⟨t948,A260,H⟩ := H
         replace H : (if t948 = (-1) then (if t944 = true then ((impl_OrdCompare.f kj8 t930 t943).bind fun t949 => ((impl_OrdCompare.f kj8 t927 t940).bind fun t950 => (if t949 = t950 then ((impl_OrdDepth.f kj8 t930).bind fun t951 => ((impl_OrdDepth.f kj8 t927).bind fun t952 => (some (t951 == (wrap64 (t952 + 1)))))) else (some false)))) else ((impl_OrdDepth.f kj8 t930).bind fun t953 => ((impl_OrdDepth.f kj8 t927).bind fun t954 => (some (t953 == (wrap64 (t954 + 1))))))) else (some false)) = some r := H
         have A26 := Aside0.mk A260
         clear A260
         by_cases c27 : t948 = (-1)
         ·rw [if_pos c27] at H
          have c27b0 : (t948 == (-1)) = true := beq_iff_eq.mpr c27
          have c27b1 : (t948 != (-1)) = false := bne_eq_false_iff_eq.mpr c27
          clear c27
          by_cases c28 : t944 = true
          ·subst c28
           have H1 : ((impl_OrdCompare.f kj8 t930 t943).bind fun t949 => ((impl_OrdCompare.f kj8 t927 t940).bind fun t950 => (if t949 = t950 then ((impl_OrdDepth.f kj8 t930).bind fun t951 => ((impl_OrdDepth.f kj8 t927).bind fun t952 => (some (t951 == (wrap64 (t952 + 1)))))) else (some false)))) = some r := by rw [if_pos rfl] at H;exact H
           clear H
           have H := H1
           clear H1
           replace H := Option.bind_eq_some_iff.mp H
           obtain ⟨t949,A290,H⟩ := H
           replace H : ((impl_OrdCompare.f kj8 t927 t940).bind fun t950 => (if t949 = t950 then ((impl_OrdDepth.f kj8 t930).bind fun t951 => ((impl_OrdDepth.f kj8 t927).bind fun t952 => (some (t951 == (wrap64 (t952 + 1)))))) else (some false))) = some r := H
           have A29 := Aside0.mk A290
           clear A290
           replace H := Option.bind_eq_some_iff.mp H
           obtain ⟨t950,A300,H⟩ := H
           replace H : (if t949 = t950 then ((impl_OrdDepth.f kj8 t930).bind fun t951 => ((impl_OrdDepth.f kj8 t927).bind fun t952 => (some (t951 == (wrap64 (t952 + 1)))))) else (some false)) = some r := H
           have A30 := Aside0.mk A300
           clear A300
           by_cases c31 : t949 = t950
           ·rw [if_pos c31] at H
            have c31b0 : (t949 == t950) = true := beq_iff_eq.mpr c31
            have c31b1 : (t949 != t950) = false := bne_eq_false_iff_eq.mpr c31
            clear c31
            replace H := Option.bind_eq_some_iff.mp H
            obtain ⟨t951,A320,H⟩ := H
            replace H : ((impl_OrdDepth.f kj8 t927).bind fun t952 => (some (t951 == (wrap64 (t952 + 1))))) = some r := H
            have A32 := Aside0.mk A320
            clear A320
            replace H := Option.bind_eq_some_iff.mp H
            obtain ⟨t952,A330,H⟩ := H
            replace H : (some (t951 == (wrap64 (t952 + 1)))) = some r := H
            have A33 := Aside0.mk A330
            clear A330
            obtain rfl := Option.some.inj H
            go_wp2_with (first|((with_reducible refine gate_callee (f := 41) rfl ?_);refine goesL_ (some 51) rfl rfl Try.func41 (by kernel_rfl) rfl #[.slice A1 l1.length c1] rfl az ?_;(with_reducible refine (spec_DrawOrdPower.calls kj8 _ _ l1 t940 _ ?side1 ?side2 A22.out).mono ?_);(case side1 => exact Kd.Cz (Kd.C_below HR1.out HB.out));(case side2 => exact HC1.out);rintro e w34 ⟨v941,rfl,ho0,hb⟩;refine ⟨_,rfl,?_⟩;have n0_ := Aside0.mk (Kd.R_elder' (Kd.Rz HO_5.out) (Kd.R_base ho0) hb);have n1_ := Aside0.mk (Kd.R_elder' (Kd.Rz HO_6.out) (Kd.R_base ho0) hb);have n2_ := Aside0.mk (Kd.R_lower (Kd.R_new' (Kd.R_new' ho0 (Kd.R_lt (Kd.Rz HO_5.out))) (Kd.R_lt (Kd.Rz HO_6.out))) (below_size bz));have n3_ := Aside0.mk (below_step bz hb);clear HO_5;clear HO_6;clear HB;have HO_5 := n0_;have HO_6 := n1_;have HO942 := n2_;have HB := n3_;clear n0_ n1_ n2_ n3_;(try clear hb);(try clear hb2);(try clear hk);(try clear hi);(try clear ho0);obtain ⟨Ao35,co35,eo35⟩ := Kd.R_slice HO942.out;subst eo35)|((with_reducible refine gate_callee (f := 42) rfl ?_);refine goesL_ (some 54) rfl rfl Try.func42 (by kernel_rfl) rfl #[.slice Ao35 t940.length co35] rfl az ?_;(with_reducible refine (impl_OrdPower.calls kj8 _ _ t940 t943 true _ ?side1 ?side2 A23.out).mono ?_);(case side1 => exact Kd.Cz (Kd.R_reads' HO942.out).2.2);(case side2 => exact (Kd.R_reads' HO942.out).2.1);rintro e w36 ⟨v945,rfl,ho0,hb⟩;refine ⟨_,rfl,?_⟩;have n0_ := Aside0.mk (Kd.R_elder' (Kd.Rz HO_5.out) (Kd.R_base ho0) hb);have n1_ := Aside0.mk (Kd.R_elder' (Kd.Rz HO_6.out) (Kd.R_base ho0) hb);have n2_ := Aside0.mk (Kd.R_elder' (Kd.Rz HO942.out) (Kd.R_base ho0) hb);have n3_ := Aside0.mk (Kd.R_lower (Kd.R_new' (Kd.R_new' (Kd.R_new' ho0 (Kd.R_lt (Kd.Rz HO_5.out))) (Kd.R_lt (Kd.Rz HO_6.out))) (Kd.R_lt (Kd.Rz HO942.out))) (below_size bz));have n4_ := Aside0.mk (below_step bz hb);clear HO_5;clear HO_6;clear HO942;clear HB;have HO_5 := n0_;have HO_6 := n1_;have HO942 := n2_;have HO946 := n3_;have HB := n4_;clear n0_ n1_ n2_ n3_ n4_;(try clear hb);(try clear hb2);(try clear hk);(try clear hi);(try clear ho0);obtain ⟨Ao37,co37,eo37⟩ := Kd.R_slice HO_6.out;subst eo37)|((with_reducible refine gate_callee (f := 21) rfl ?_);refine goesL_ (some 58) rfl rfl Try.func21 (by kernel_rfl) rfl #[.slice Ao37 t930.length co37] rfl az ?_;(with_reducible refine (impl_OrdValid.calls kj8 _ _ t930 true _ ?side1 ?side2 A24.out).mono ?_);(case side1 => exact Kd.Cz (Kd.R_reads' HO_6.out).2.2);(case side2 => exact (Kd.R_reads' HO_6.out).2.1);rintro e w38 ⟨rfl,hb⟩;refine ⟨_,rfl,?_⟩;have n0_ := Aside0.mk (Kd.R_below (Kd.Rz HO_5.out) hb);have n1_ := Aside0.mk (Kd.R_below (Kd.Rz HO_6.out) hb);have n2_ := Aside0.mk (Kd.R_below (Kd.Rz HO942.out) hb);have n3_ := Aside0.mk (Kd.R_below (Kd.Rz HO946.out) hb);have n4_ := Aside0.mk (below_step bz hb);clear HO_5;clear HO_6;clear HO942;clear HO946;clear HB;have HO_5 := n0_;have HO_6 := n1_;have HO942 := n2_;have HO946 := n3_;have HB := n4_;clear n0_ n1_ n2_ n3_ n4_;(try clear hb);(try clear hb2);(try clear hk);(try clear hi))|(go_at_call 28;(with_reducible refine (impl_OrdCompare.calls kj8 _ _ t927 _ _ t930 t948 _ ?side1 ?side2 ?side3 ?side4 A26.out).mono ?_);(case side1 => exact Kd.Cz (Kd.R_reads' HO_5.out).2.2);(case side2 => exact (Kd.R_reads' HO_5.out).2.1);(case side3 => exact Kd.Cz (Kd.R_reads' HO_6.out).2.2);(case side4 => exact (Kd.R_reads' HO_6.out).2.1);rintro e w39 ⟨rfl,hb⟩;have n0_ := Aside0.mk (Kd.R_below (Kd.Rz HO_5.out) hb);have n1_ := Aside0.mk (Kd.R_below (Kd.Rz HO_6.out) hb);have n2_ := Aside0.mk (Kd.R_below (Kd.Rz HO942.out) hb);have n3_ := Aside0.mk (Kd.R_below (Kd.Rz HO946.out) hb);have n4_ := Aside0.mk (below_step bz hb);clear HO_5;clear HO_6;clear HO942;clear HO946;clear HB;have HO_5 := n0_;have HO_6 := n1_;have HO942 := n2_;have HO946 := n3_;have HB := n4_;clear n0_ n1_ n2_ n3_ n4_;(try clear hb);(try clear hb2);(try clear hk);(try clear hi);obtain ⟨Ao40,co40,eo40⟩ := Kd.R_slice HO946.out;subst eo40)|(go_at_call 28;(with_reducible refine (impl_OrdCompare.calls kj8 _ _ t930 _ _ t943 t949 _ ?side1 ?side2 ?side3 ?side4 A29.out).mono ?_);(case side1 => exact Kd.Cz (Kd.R_reads' HO_6.out).2.2);(case side2 => exact (Kd.R_reads' HO_6.out).2.1);(case side3 => exact Kd.Cz (Kd.R_reads' HO946.out).2.2);(case side4 => exact (Kd.R_reads' HO946.out).2.1);rintro e w41 ⟨rfl,hb⟩;have n0_ := Aside0.mk (Kd.R_below (Kd.Rz HO_5.out) hb);have n1_ := Aside0.mk (Kd.R_below (Kd.Rz HO_6.out) hb);have n2_ := Aside0.mk (Kd.R_below (Kd.Rz HO942.out) hb);have n3_ := Aside0.mk (Kd.R_below (Kd.Rz HO946.out) hb);have n4_ := Aside0.mk (below_step bz hb);clear HO_5;clear HO_6;clear HO942;clear HO946;clear HB;have HO_5 := n0_;have HO_6 := n1_;have HO942 := n2_;have HO946 := n3_;have HB := n4_;clear n0_ n1_ n2_ n3_ n4_;(try clear hb);(try clear hb2);(try clear hk);(try clear hi))|(go_at_call 28;(with_reducible refine (impl_OrdCompare.calls kj8 _ _ t927 _ _ t940 t950 _ ?side1 ?side2 ?side3 ?side4 A30.out).mono ?_);(case side1 => exact Kd.Cz (Kd.R_reads' HO_5.out).2.2);(case side2 => exact (Kd.R_reads' HO_5.out).2.1);(case side3 => exact Kd.Cz (Kd.R_reads' HO942.out).2.2);(case side4 => exact (Kd.R_reads' HO942.out).2.1);rintro e w42 ⟨rfl,hb⟩;have n0_ := Aside0.mk (Kd.R_below (Kd.Rz HO_5.out) hb);have n1_ := Aside0.mk (Kd.R_below (Kd.Rz HO_6.out) hb);have n2_ := Aside0.mk (Kd.R_below (Kd.Rz HO942.out) hb);have n3_ := Aside0.mk (Kd.R_below (Kd.Rz HO946.out) hb);have n4_ := Aside0.mk (below_step bz hb);clear HO_5;clear HO_6;clear HO942;clear HO946;clear HB;have HO_5 := n0_;have HO_6 := n1_;have HO942 := n2_;have HO946 := n3_;have HB := n4_;clear n0_ n1_ n2_ n3_ n4_;(try clear hb);(try clear hb2);(try clear hk);(try clear hi))|(go_at_call 26;(with_reducible refine (impl_OrdDepth.calls kj8 _ _ t930 t951 _ ?side1 ?side2 A32.out).mono ?_);(case side1 => exact Kd.Cz (Kd.R_reads' HO_6.out).2.2);(case side2 => exact (Kd.R_reads' HO_6.out).2.1);rintro e w43 ⟨rfl,hb⟩;have n0_ := Aside0.mk (Kd.R_below (Kd.Rz HO_5.out) hb);have n1_ := Aside0.mk (Kd.R_below (Kd.Rz HO_6.out) hb);have n2_ := Aside0.mk (Kd.R_below (Kd.Rz HO942.out) hb);have n3_ := Aside0.mk (Kd.R_below (Kd.Rz HO946.out) hb);have n4_ := Aside0.mk (below_step bz hb);clear HO_5;clear HO_6;clear HO942;clear HO946;clear HB;have HO_5 := n0_;have HO_6 := n1_;have HO942 := n2_;have HO946 := n3_;have HB := n4_;clear n0_ n1_ n2_ n3_ n4_;(try clear hb);(try clear hb2);(try clear hk);(try clear hi))|(go_at_call 26;(with_reducible refine (impl_OrdDepth.calls kj8 _ _ t927 t952 _ ?side1 ?side2 A33.out).mono ?_);(case side1 => exact Kd.Cz (Kd.R_reads' HO_5.out).2.2);(case side2 => exact (Kd.R_reads' HO_5.out).2.1);rintro e w44 ⟨rfl,hb⟩;have n0_ := Aside0.mk (Kd.R_below (Kd.Rz HO_5.out) hb);have n1_ := Aside0.mk (Kd.R_below (Kd.Rz HO_6.out) hb);have n2_ := Aside0.mk (Kd.R_below (Kd.Rz HO942.out) hb);have n3_ := Aside0.mk (Kd.R_below (Kd.Rz HO946.out) hb);have n4_ := Aside0.mk (below_step bz hb);clear HO_5;clear HO_6;clear HO942;clear HO946;clear HB;have HO_5 := n0_;have HO_6 := n1_;have HO942 := n2_;have HO946 := n3_;have HB := n4_;clear n0_ n1_ n2_ n3_ n4_;(try clear hb);(try clear hb2);(try clear hk);(try clear hi)))
            go_ret
            exact ⟨by first|rfl|(simp [errW_none,errW_some] <;> rfl)|(simp [*,errW_none,errW_some] <;> rfl),bz⟩
           ·rw [if_neg c31] at H
            have c31b0 : (t949 == t950) = false := beq_eq_false_iff_ne.mpr c31
            have c31b1 : (t949 != t950) = true := bne_iff_ne.mpr c31
            obtain rfl := Option.some.inj H
            go_wp2_with (first|((with_reducible refine gate_callee (f := 41) rfl ?_);refine goesL_ (some 51) rfl rfl Try.func41 (by kernel_rfl) rfl #[.slice A1 l1.length c1] rfl az ?_;(with_reducible refine (spec_DrawOrdPower.calls kj8 _ _ l1 t940 _ ?side1 ?side2 A22.out).mono ?_);(case side1 => exact Kd.Cz (Kd.C_below HR1.out HB.out));(case side2 => exact HC1.out);rintro e w45 ⟨v941,rfl,ho0,hb⟩;refine ⟨_,rfl,?_⟩;have n0_ := Aside0.mk (Kd.R_elder' (Kd.Rz HO_5.out) (Kd.R_base ho0) hb);have n1_ := Aside0.mk (Kd.R_elder' (Kd.Rz HO_6.out) (Kd.R_base ho0) hb);have n2_ := Aside0.mk (Kd.R_lower (Kd.R_new' (Kd.R_new' ho0 (Kd.R_lt (Kd.Rz HO_5.out))) (Kd.R_lt (Kd.Rz HO_6.out))) (below_size bz));have n3_ := Aside0.mk (below_step bz hb);clear HO_5;clear HO_6;clear HB;have HO_5 := n0_;have HO_6 := n1_;have HO942 := n2_;have HB := n3_;clear n0_ n1_ n2_ n3_;(try clear hb);(try clear hb2);(try clear hk);(try clear hi);(try clear ho0);obtain ⟨Ao46,co46,eo46⟩ := Kd.R_slice HO942.out;subst eo46)|((with_reducible refine gate_callee (f := 42) rfl ?_);refine goesL_ (some 54) rfl rfl Try.func42 (by kernel_rfl) rfl #[.slice Ao46 t940.length co46] rfl az ?_;(with_reducible refine (impl_OrdPower.calls kj8 _ _ t940 t943 true _ ?side1 ?side2 A23.out).mono ?_);(case side1 => exact Kd.Cz (Kd.R_reads' HO942.out).2.2);(case side2 => exact (Kd.R_reads' HO942.out).2.1);rintro e w47 ⟨v945,rfl,ho0,hb⟩;refine ⟨_,rfl,?_⟩;have n0_ := Aside0.mk (Kd.R_elder' (Kd.Rz HO_5.out) (Kd.R_base ho0) hb);have n1_ := Aside0.mk (Kd.R_elder' (Kd.Rz HO_6.out) (Kd.R_base ho0) hb);have n2_ := Aside0.mk (Kd.R_elder' (Kd.Rz HO942.out) (Kd.R_base ho0) hb);have n3_ := Aside0.mk (Kd.R_lower (Kd.R_new' (Kd.R_new' (Kd.R_new' ho0 (Kd.R_lt (Kd.Rz HO_5.out))) (Kd.R_lt (Kd.Rz HO_6.out))) (Kd.R_lt (Kd.Rz HO942.out))) (below_size bz));have n4_ := Aside0.mk (below_step bz hb);clear HO_5;clear HO_6;clear HO942;clear HB;have HO_5 := n0_;have HO_6 := n1_;have HO942 := n2_;have HO946 := n3_;have HB := n4_;clear n0_ n1_ n2_ n3_ n4_;(try clear hb);(try clear hb2);(try clear hk);(try clear hi);(try clear ho0);obtain ⟨Ao48,co48,eo48⟩ := Kd.R_slice HO_6.out;subst eo48)|((with_reducible refine gate_callee (f := 21) rfl ?_);refine goesL_ (some 58) rfl rfl Try.func21 (by kernel_rfl) rfl #[.slice Ao48 t930.length co48] rfl az ?_;(with_reducible refine (impl_OrdValid.calls kj8 _ _ t930 true _ ?side1 ?side2 A24.out).mono ?_);(case side1 => exact Kd.Cz (Kd.R_reads' HO_6.out).2.2);(case side2 => exact (Kd.R_reads' HO_6.out).2.1);rintro e w49 ⟨rfl,hb⟩;refine ⟨_,rfl,?_⟩;have n0_ := Aside0.mk (Kd.R_below (Kd.Rz HO_5.out) hb);have n1_ := Aside0.mk (Kd.R_below (Kd.Rz HO_6.out) hb);have n2_ := Aside0.mk (Kd.R_below (Kd.Rz HO942.out) hb);have n3_ := Aside0.mk (Kd.R_below (Kd.Rz HO946.out) hb);have n4_ := Aside0.mk (below_step bz hb);clear HO_5;clear HO_6;clear HO942;clear HO946;clear HB;have HO_5 := n0_;have HO_6 := n1_;have HO942 := n2_;have HO946 := n3_;have HB := n4_;clear n0_ n1_ n2_ n3_ n4_;(try clear hb);(try clear hb2);(try clear hk);(try clear hi))|(go_at_call 28;(with_reducible refine (impl_OrdCompare.calls kj8 _ _ t927 _ _ t930 t948 _ ?side1 ?side2 ?side3 ?side4 A26.out).mono ?_);(case side1 => exact Kd.Cz (Kd.R_reads' HO_5.out).2.2);(case side2 => exact (Kd.R_reads' HO_5.out).2.1);(case side3 => exact Kd.Cz (Kd.R_reads' HO_6.out).2.2);(case side4 => exact (Kd.R_reads' HO_6.out).2.1);rintro e w50 ⟨rfl,hb⟩;have n0_ := Aside0.mk (Kd.R_below (Kd.Rz HO_5.out) hb);have n1_ := Aside0.mk (Kd.R_below (Kd.Rz HO_6.out) hb);have n2_ := Aside0.mk (Kd.R_below (Kd.Rz HO942.out) hb);have n3_ := Aside0.mk (Kd.R_below (Kd.Rz HO946.out) hb);have n4_ := Aside0.mk (below_step bz hb);clear HO_5;clear HO_6;clear HO942;clear HO946;clear HB;have HO_5 := n0_;have HO_6 := n1_;have HO942 := n2_;have HO946 := n3_;have HB := n4_;clear n0_ n1_ n2_ n3_ n4_;(try clear hb);(try clear hb2);(try clear hk);(try clear hi);obtain ⟨Ao51,co51,eo51⟩ := Kd.R_slice HO946.out;subst eo51)|(go_at_call 28;(with_reducible refine (impl_OrdCompare.calls kj8 _ _ t930 _ _ t943 t949 _ ?side1 ?side2 ?side3 ?side4 A29.out).mono ?_);(case side1 => exact Kd.Cz (Kd.R_reads' HO_6.out).2.2);(case side2 => exact (Kd.R_reads' HO_6.out).2.1);(case side3 => exact Kd.Cz (Kd.R_reads' HO946.out).2.2);(case side4 => exact (Kd.R_reads' HO946.out).2.1);rintro e w52 ⟨rfl,hb⟩;have n0_ := Aside0.mk (Kd.R_below (Kd.Rz HO_5.out) hb);have n1_ := Aside0.mk (Kd.R_below (Kd.Rz HO_6.out) hb);have n2_ := Aside0.mk (Kd.R_below (Kd.Rz HO942.out) hb);have n3_ := Aside0.mk (Kd.R_below (Kd.Rz HO946.out) hb);have n4_ := Aside0.mk (below_step bz hb);clear HO_5;clear HO_6;clear HO942;clear HO946;clear HB;have HO_5 := n0_;have HO_6 := n1_;have HO942 := n2_;have HO946 := n3_;have HB := n4_;clear n0_ n1_ n2_ n3_ n4_;(try clear hb);(try clear hb2);(try clear hk);(try clear hi))|(go_at_call 28;(with_reducible refine (impl_OrdCompare.calls kj8 _ _ t927 _ _ t940 t950 _ ?side1 ?side2 ?side3 ?side4 A30.out).mono ?_);(case side1 => exact Kd.Cz (Kd.R_reads' HO_5.out).2.2);(case side2 => exact (Kd.R_reads' HO_5.out).2.1);(case side3 => exact Kd.Cz (Kd.R_reads' HO942.out).2.2);(case side4 => exact (Kd.R_reads' HO942.out).2.1);rintro e w53 ⟨rfl,hb⟩;have n0_ := Aside0.mk (Kd.R_below (Kd.Rz HO_5.out) hb);have n1_ := Aside0.mk (Kd.R_below (Kd.Rz HO_6.out) hb);have n2_ := Aside0.mk (Kd.R_below (Kd.Rz HO942.out) hb);have n3_ := Aside0.mk (Kd.R_below (Kd.Rz HO946.out) hb);have n4_ := Aside0.mk (below_step bz hb);clear HO_5;clear HO_6;clear HO942;clear HO946;clear HB;have HO_5 := n0_;have HO_6 := n1_;have HO942 := n2_;have HO946 := n3_;have HB := n4_;clear n0_ n1_ n2_ n3_ n4_;(try clear hb);(try clear hb2);(try clear hk);(try clear hi)))
            go_ret
            exact ⟨by first|rfl|(simp [errW_none,errW_some] <;> rfl)|(simp [*,errW_none,errW_some] <;> rfl),bz⟩
          ·replace c28 := Bool.eq_false_iff.mpr c28
           subst c28
           have H1 : ((impl_OrdDepth.f kj8 t930).bind fun t953 => ((impl_OrdDepth.f kj8 t927).bind fun t954 => (some (t953 == (wrap64 (t954 + 1)))))) = some r := by rw [if_neg (show ¬ (false = true) by decide)] at H;exact H
           clear H
           have H := H1
           clear H1
           replace H := Option.bind_eq_some_iff.mp H
           obtain ⟨t953,A540,H⟩ := H
           replace H : ((impl_OrdDepth.f kj8 t927).bind fun t954 => (some (t953 == (wrap64 (t954 + 1))))) = some r := H
           have A54 := Aside0.mk A540
           clear A540
           replace H := Option.bind_eq_some_iff.mp H
           obtain ⟨t954,A550,H⟩ := H
           replace H : (some (t953 == (wrap64 (t954 + 1)))) = some r := H
           have A55 := Aside0.mk A550
           clear A550
           obtain rfl := Option.some.inj H
           go_wp2_with (first|((with_reducible refine gate_callee (f := 41) rfl ?_);refine goesL_ (some 51) rfl rfl Try.func41 (by kernel_rfl) rfl #[.slice A1 l1.length c1] rfl az ?_;(with_reducible refine (spec_DrawOrdPower.calls kj8 _ _ l1 t940 _ ?side1 ?side2 A22.out).mono ?_);(case side1 => exact Kd.Cz (Kd.C_below HR1.out HB.out));(case side2 => exact HC1.out);rintro e w56 ⟨v941,rfl,ho0,hb⟩;refine ⟨_,rfl,?_⟩;have n0_ := Aside0.mk (Kd.R_elder' (Kd.Rz HO_5.out) (Kd.R_base ho0) hb);have n1_ := Aside0.mk (Kd.R_elder' (Kd.Rz HO_6.out) (Kd.R_base ho0) hb);have n2_ := Aside0.mk (Kd.R_lower (Kd.R_new' (Kd.R_new' ho0 (Kd.R_lt (Kd.Rz HO_5.out))) (Kd.R_lt (Kd.Rz HO_6.out))) (below_size bz));have n3_ := Aside0.mk (below_step bz hb);clear HO_5;clear HO_6;clear HB;have HO_5 := n0_;have HO_6 := n1_;have HO942 := n2_;have HB := n3_;clear n0_ n1_ n2_ n3_;(try clear hb);(try clear hb2);(try clear hk);(try clear hi);(try clear ho0);obtain ⟨Ao57,co57,eo57⟩ := Kd.R_slice HO942.out;subst eo57)|((with_reducible refine gate_callee (f := 42) rfl ?_);refine goesL_ (some 54) rfl rfl Try.func42 (by kernel_rfl) rfl #[.slice Ao57 t940.length co57] rfl az ?_;(with_reducible refine (impl_OrdPower.calls kj8 _ _ t940 t943 false _ ?side1 ?side2 A23.out).mono ?_);(case side1 => exact Kd.Cz (Kd.R_reads' HO942.out).2.2);(case side2 => exact (Kd.R_reads' HO942.out).2.1);rintro e w58 ⟨v945,rfl,ho0,hb⟩;refine ⟨_,rfl,?_⟩;have n0_ := Aside0.mk (Kd.R_elder' (Kd.Rz HO_5.out) (Kd.R_base ho0) hb);have n1_ := Aside0.mk (Kd.R_elder' (Kd.Rz HO_6.out) (Kd.R_base ho0) hb);have n2_ := Aside0.mk (Kd.R_elder' (Kd.Rz HO942.out) (Kd.R_base ho0) hb);have n3_ := Aside0.mk (Kd.R_lower (Kd.R_new' (Kd.R_new' (Kd.R_new' ho0 (Kd.R_lt (Kd.Rz HO_5.out))) (Kd.R_lt (Kd.Rz HO_6.out))) (Kd.R_lt (Kd.Rz HO942.out))) (below_size bz));have n4_ := Aside0.mk (below_step bz hb);clear HO_5;clear HO_6;clear HO942;clear HB;have HO_5 := n0_;have HO_6 := n1_;have HO942 := n2_;have HO946 := n3_;have HB := n4_;clear n0_ n1_ n2_ n3_ n4_;(try clear hb);(try clear hb2);(try clear hk);(try clear hi);(try clear ho0);obtain ⟨Ao59,co59,eo59⟩ := Kd.R_slice HO_6.out;subst eo59)|((with_reducible refine gate_callee (f := 21) rfl ?_);refine goesL_ (some 58) rfl rfl Try.func21 (by kernel_rfl) rfl #[.slice Ao59 t930.length co59] rfl az ?_;(with_reducible refine (impl_OrdValid.calls kj8 _ _ t930 true _ ?side1 ?side2 A24.out).mono ?_);(case side1 => exact Kd.Cz (Kd.R_reads' HO_6.out).2.2);(case side2 => exact (Kd.R_reads' HO_6.out).2.1);rintro e w60 ⟨rfl,hb⟩;refine ⟨_,rfl,?_⟩;have n0_ := Aside0.mk (Kd.R_below (Kd.Rz HO_5.out) hb);have n1_ := Aside0.mk (Kd.R_below (Kd.Rz HO_6.out) hb);have n2_ := Aside0.mk (Kd.R_below (Kd.Rz HO942.out) hb);have n3_ := Aside0.mk (Kd.R_below (Kd.Rz HO946.out) hb);have n4_ := Aside0.mk (below_step bz hb);clear HO_5;clear HO_6;clear HO942;clear HO946;clear HB;have HO_5 := n0_;have HO_6 := n1_;have HO942 := n2_;have HO946 := n3_;have HB := n4_;clear n0_ n1_ n2_ n3_ n4_;(try clear hb);(try clear hb2);(try clear hk);(try clear hi))|(go_at_call 28;(with_reducible refine (impl_OrdCompare.calls kj8 _ _ t927 _ _ t930 t948 _ ?side1 ?side2 ?side3 ?side4 A26.out).mono ?_);(case side1 => exact Kd.Cz (Kd.R_reads' HO_5.out).2.2);(case side2 => exact (Kd.R_reads' HO_5.out).2.1);(case side3 => exact Kd.Cz (Kd.R_reads' HO_6.out).2.2);(case side4 => exact (Kd.R_reads' HO_6.out).2.1);rintro e w61 ⟨rfl,hb⟩;have n0_ := Aside0.mk (Kd.R_below (Kd.Rz HO_5.out) hb);have n1_ := Aside0.mk (Kd.R_below (Kd.Rz HO_6.out) hb);have n2_ := Aside0.mk (Kd.R_below (Kd.Rz HO942.out) hb);have n3_ := Aside0.mk (Kd.R_below (Kd.Rz HO946.out) hb);have n4_ := Aside0.mk (below_step bz hb);clear HO_5;clear HO_6;clear HO942;clear HO946;clear HB;have HO_5 := n0_;have HO_6 := n1_;have HO942 := n2_;have HO946 := n3_;have HB := n4_;clear n0_ n1_ n2_ n3_ n4_;(try clear hb);(try clear hb2);(try clear hk);(try clear hi))|(go_at_call 26;(with_reducible refine (impl_OrdDepth.calls kj8 _ _ t930 t953 _ ?side1 ?side2 A54.out).mono ?_);(case side1 => exact Kd.Cz (Kd.R_reads' HO_6.out).2.2);(case side2 => exact (Kd.R_reads' HO_6.out).2.1);rintro e w62 ⟨rfl,hb⟩;have n0_ := Aside0.mk (Kd.R_below (Kd.Rz HO_5.out) hb);have n1_ := Aside0.mk (Kd.R_below (Kd.Rz HO_6.out) hb);have n2_ := Aside0.mk (Kd.R_below (Kd.Rz HO942.out) hb);have n3_ := Aside0.mk (Kd.R_below (Kd.Rz HO946.out) hb);have n4_ := Aside0.mk (below_step bz hb);clear HO_5;clear HO_6;clear HO942;clear HO946;clear HB;have HO_5 := n0_;have HO_6 := n1_;have HO942 := n2_;have HO946 := n3_;have HB := n4_;clear n0_ n1_ n2_ n3_ n4_;(try clear hb);(try clear hb2);(try clear hk);(try clear hi))|(go_at_call 26;(with_reducible refine (impl_OrdDepth.calls kj8 _ _ t927 t954 _ ?side1 ?side2 A55.out).mono ?_);(case side1 => exact Kd.Cz (Kd.R_reads' HO_5.out).2.2);(case side2 => exact (Kd.R_reads' HO_5.out).2.1);rintro e w63 ⟨rfl,hb⟩;have n0_ := Aside0.mk (Kd.R_below (Kd.Rz HO_5.out) hb);have n1_ := Aside0.mk (Kd.R_below (Kd.Rz HO_6.out) hb);have n2_ := Aside0.mk (Kd.R_below (Kd.Rz HO942.out) hb);have n3_ := Aside0.mk (Kd.R_below (Kd.Rz HO946.out) hb);have n4_ := Aside0.mk (below_step bz hb);clear HO_5;clear HO_6;clear HO942;clear HO946;clear HB;have HO_5 := n0_;have HO_6 := n1_;have HO942 := n2_;have HO946 := n3_;have HB := n4_;clear n0_ n1_ n2_ n3_ n4_;(try clear hb);(try clear hb2);(try clear hk);(try clear hi)))
           go_ret
           exact ⟨by first|rfl|(simp [errW_none,errW_some] <;> rfl)|(simp [*,errW_none,errW_some] <;> rfl),bz⟩
         ·rw [if_neg c27] at H
          have c27b0 : (t948 == (-1)) = false := beq_eq_false_iff_ne.mpr c27
          have c27b1 : (t948 != (-1)) = true := bne_iff_ne.mpr c27
          obtain rfl := Option.some.inj H
          go_wp2_with (first|((with_reducible refine gate_callee (f := 41) rfl ?_);refine goesL_ (some 51) rfl rfl Try.func41 (by kernel_rfl) rfl #[.slice A1 l1.length c1] rfl az ?_;(with_reducible refine (spec_DrawOrdPower.calls kj8 _ _ l1 t940 _ ?side1 ?side2 A22.out).mono ?_);(case side1 => exact Kd.Cz (Kd.C_below HR1.out HB.out));(case side2 => exact HC1.out);rintro e w64 ⟨v941,rfl,ho0,hb⟩;refine ⟨_,rfl,?_⟩;have n0_ := Aside0.mk (Kd.R_elder' (Kd.Rz HO_5.out) (Kd.R_base ho0) hb);have n1_ := Aside0.mk (Kd.R_elder' (Kd.Rz HO_6.out) (Kd.R_base ho0) hb);have n2_ := Aside0.mk (Kd.R_lower (Kd.R_new' (Kd.R_new' ho0 (Kd.R_lt (Kd.Rz HO_5.out))) (Kd.R_lt (Kd.Rz HO_6.out))) (below_size bz));have n3_ := Aside0.mk (below_step bz hb);clear HO_5;clear HO_6;clear HB;have HO_5 := n0_;have HO_6 := n1_;have HO942 := n2_;have HB := n3_;clear n0_ n1_ n2_ n3_;(try clear hb);(try clear hb2);(try clear hk);(try clear hi);(try clear ho0);obtain ⟨Ao65,co65,eo65⟩ := Kd.R_slice HO942.out;subst eo65)|((with_reducible refine gate_callee (f := 42) rfl ?_);refine goesL_ (some 54) rfl rfl Try.func42 (by kernel_rfl) rfl #[.slice Ao65 t940.length co65] rfl az ?_;(with_reducible refine (impl_OrdPower.calls kj8 _ _ t940 t943 t944 _ ?side1 ?side2 A23.out).mono ?_);(case side1 => exact Kd.Cz (Kd.R_reads' HO942.out).2.2);(case side2 => exact (Kd.R_reads' HO942.out).2.1);rintro e w66 ⟨v945,rfl,ho0,hb⟩;refine ⟨_,rfl,?_⟩;have n0_ := Aside0.mk (Kd.R_elder' (Kd.Rz HO_5.out) (Kd.R_base ho0) hb);have n1_ := Aside0.mk (Kd.R_elder' (Kd.Rz HO_6.out) (Kd.R_base ho0) hb);have n2_ := Aside0.mk (Kd.R_elder' (Kd.Rz HO942.out) (Kd.R_base ho0) hb);have n3_ := Aside0.mk (Kd.R_lower (Kd.R_new' (Kd.R_new' (Kd.R_new' ho0 (Kd.R_lt (Kd.Rz HO_5.out))) (Kd.R_lt (Kd.Rz HO_6.out))) (Kd.R_lt (Kd.Rz HO942.out))) (below_size bz));have n4_ := Aside0.mk (below_step bz hb);clear HO_5;clear HO_6;clear HO942;clear HB;have HO_5 := n0_;have HO_6 := n1_;have HO942 := n2_;have HO946 := n3_;have HB := n4_;clear n0_ n1_ n2_ n3_ n4_;(try clear hb);(try clear hb2);(try clear hk);(try clear hi);(try clear ho0);obtain ⟨Ao67,co67,eo67⟩ := Kd.R_slice HO_6.out;subst eo67)|((with_reducible refine gate_callee (f := 21) rfl ?_);refine goesL_ (some 58) rfl rfl Try.func21 (by kernel_rfl) rfl #[.slice Ao67 t930.length co67] rfl az ?_;(with_reducible refine (impl_OrdValid.calls kj8 _ _ t930 true _ ?side1 ?side2 A24.out).mono ?_);(case side1 => exact Kd.Cz (Kd.R_reads' HO_6.out).2.2);(case side2 => exact (Kd.R_reads' HO_6.out).2.1);rintro e w68 ⟨rfl,hb⟩;refine ⟨_,rfl,?_⟩;have n0_ := Aside0.mk (Kd.R_below (Kd.Rz HO_5.out) hb);have n1_ := Aside0.mk (Kd.R_below (Kd.Rz HO_6.out) hb);have n2_ := Aside0.mk (Kd.R_below (Kd.Rz HO942.out) hb);have n3_ := Aside0.mk (Kd.R_below (Kd.Rz HO946.out) hb);have n4_ := Aside0.mk (below_step bz hb);clear HO_5;clear HO_6;clear HO942;clear HO946;clear HB;have HO_5 := n0_;have HO_6 := n1_;have HO942 := n2_;have HO946 := n3_;have HB := n4_;clear n0_ n1_ n2_ n3_ n4_;(try clear hb);(try clear hb2);(try clear hk);(try clear hi))|(go_at_call 28;(with_reducible refine (impl_OrdCompare.calls kj8 _ _ t927 _ _ t930 t948 _ ?side1 ?side2 ?side3 ?side4 A26.out).mono ?_);(case side1 => exact Kd.Cz (Kd.R_reads' HO_5.out).2.2);(case side2 => exact (Kd.R_reads' HO_5.out).2.1);(case side3 => exact Kd.Cz (Kd.R_reads' HO_6.out).2.2);(case side4 => exact (Kd.R_reads' HO_6.out).2.1);rintro e w69 ⟨rfl,hb⟩;have n0_ := Aside0.mk (Kd.R_below (Kd.Rz HO_5.out) hb);have n1_ := Aside0.mk (Kd.R_below (Kd.Rz HO_6.out) hb);have n2_ := Aside0.mk (Kd.R_below (Kd.Rz HO942.out) hb);have n3_ := Aside0.mk (Kd.R_below (Kd.Rz HO946.out) hb);have n4_ := Aside0.mk (below_step bz hb);clear HO_5;clear HO_6;clear HO942;clear HO946;clear HB;have HO_5 := n0_;have HO_6 := n1_;have HO942 := n2_;have HO946 := n3_;have HB := n4_;clear n0_ n1_ n2_ n3_ n4_;(try clear hb);(try clear hb2);(try clear hk);(try clear hi)))
          go_ret
          exact ⟨by first|rfl|(simp [errW_none,errW_some] <;> rfl)|(simp [*,errW_none,errW_some] <;> rfl),bz⟩
        ·replace c25 := Bool.eq_false_iff.mpr c25
         subst c25
         have H1 : (some false) = some r := by rw [if_neg (show ¬ (false = true) by decide)] at H;exact H
         clear H
         have H := H1
         clear H1
         obtain rfl := Option.some.inj H
         go_wp2_with (first|((with_reducible refine gate_callee (f := 41) rfl ?_);refine goesL_ (some 51) rfl rfl Try.func41 (by kernel_rfl) rfl #[.slice A1 l1.length c1] rfl az ?_;(with_reducible refine (spec_DrawOrdPower.calls kj8 _ _ l1 t940 _ ?side1 ?side2 A22.out).mono ?_);(case side1 => exact Kd.Cz (Kd.C_below HR1.out HB.out));(case side2 => exact HC1.out);rintro e w70 ⟨v941,rfl,ho0,hb⟩;refine ⟨_,rfl,?_⟩;have n0_ := Aside0.mk (Kd.R_elder' (Kd.Rz HO_5.out) (Kd.R_base ho0) hb);have n1_ := Aside0.mk (Kd.R_elder' (Kd.Rz HO_6.out) (Kd.R_base ho0) hb);have n2_ := Aside0.mk (Kd.R_lower (Kd.R_new' (Kd.R_new' ho0 (Kd.R_lt (Kd.Rz HO_5.out))) (Kd.R_lt (Kd.Rz HO_6.out))) (below_size bz));have n3_ := Aside0.mk (below_step bz hb);clear HO_5;clear HO_6;clear HB;have HO_5 := n0_;have HO_6 := n1_;have HO942 := n2_;have HB := n3_;clear n0_ n1_ n2_ n3_;(try clear hb);(try clear hb2);(try clear hk);(try clear hi);(try clear ho0);obtain ⟨Ao71,co71,eo71⟩ := Kd.R_slice HO942.out;subst eo71)|((with_reducible refine gate_callee (f := 42) rfl ?_);refine goesL_ (some 54) rfl rfl Try.func42 (by kernel_rfl) rfl #[.slice Ao71 t940.length co71] rfl az ?_;(with_reducible refine (impl_OrdPower.calls kj8 _ _ t940 t943 t944 _ ?side1 ?side2 A23.out).mono ?_);(case side1 => exact Kd.Cz (Kd.R_reads' HO942.out).2.2);(case side2 => exact (Kd.R_reads' HO942.out).2.1);rintro e w72 ⟨v945,rfl,ho0,hb⟩;refine ⟨_,rfl,?_⟩;have n0_ := Aside0.mk (Kd.R_elder' (Kd.Rz HO_5.out) (Kd.R_base ho0) hb);have n1_ := Aside0.mk (Kd.R_elder' (Kd.Rz HO_6.out) (Kd.R_base ho0) hb);have n2_ := Aside0.mk (Kd.R_elder' (Kd.Rz HO942.out) (Kd.R_base ho0) hb);have n3_ := Aside0.mk (Kd.R_lower (Kd.R_new' (Kd.R_new' (Kd.R_new' ho0 (Kd.R_lt (Kd.Rz HO_5.out))) (Kd.R_lt (Kd.Rz HO_6.out))) (Kd.R_lt (Kd.Rz HO942.out))) (below_size bz));have n4_ := Aside0.mk (below_step bz hb);clear HO_5;clear HO_6;clear HO942;clear HB;have HO_5 := n0_;have HO_6 := n1_;have HO942 := n2_;have HO946 := n3_;have HB := n4_;clear n0_ n1_ n2_ n3_ n4_;(try clear hb);(try clear hb2);(try clear hk);(try clear hi);(try clear ho0);obtain ⟨Ao73,co73,eo73⟩ := Kd.R_slice HO_6.out;subst eo73)|((with_reducible refine gate_callee (f := 21) rfl ?_);refine goesL_ (some 58) rfl rfl Try.func21 (by kernel_rfl) rfl #[.slice Ao73 t930.length co73] rfl az ?_;(with_reducible refine (impl_OrdValid.calls kj8 _ _ t930 false _ ?side1 ?side2 A24.out).mono ?_);(case side1 => exact Kd.Cz (Kd.R_reads' HO_6.out).2.2);(case side2 => exact (Kd.R_reads' HO_6.out).2.1);rintro e w74 ⟨rfl,hb⟩;refine ⟨_,rfl,?_⟩;have n0_ := Aside0.mk (Kd.R_below (Kd.Rz HO_5.out) hb);have n1_ := Aside0.mk (Kd.R_below (Kd.Rz HO_6.out) hb);have n2_ := Aside0.mk (Kd.R_below (Kd.Rz HO942.out) hb);have n3_ := Aside0.mk (Kd.R_below (Kd.Rz HO946.out) hb);have n4_ := Aside0.mk (below_step bz hb);clear HO_5;clear HO_6;clear HO942;clear HO946;clear HB;have HO_5 := n0_;have HO_6 := n1_;have HO942 := n2_;have HO946 := n3_;have HB := n4_;clear n0_ n1_ n2_ n3_ n4_;(try clear hb);(try clear hb2);(try clear hk);(try clear hi)))
         go_ret
         exact ⟨by first|rfl|(simp [errW_none,errW_some] <;> rfl)|(simp [*,errW_none,errW_some] <;> rfl),bz⟩
       ·replace c21 := Bool.eq_false_iff.mpr c21
        subst c21
        have H1 : (if (t930.length : Int) = 0 then ((laws_alive.f kj8).bind fun t939 => (some t939)) else (some false)) = some r := by rw [if_neg (show ¬ (false = true) by decide)] at H;exact H
        clear H
        have H := H1
        clear H1
        by_cases c75 : (t930.length : Int) = 0
        ·rw [if_pos c75] at H
         have c75b0 : ((t930.length : Int) == 0) = true := beq_iff_eq.mpr c75
         have c75b1 : ((t930.length : Int) != 0) = false := bne_eq_false_iff_eq.mpr c75
         clear c75
         replace H := Option.bind_eq_some_iff.mp H
         obtain ⟨t939,A760,H⟩ := H
         replace H : (some t939) = some r := H
         have A76 := Aside0.mk A760
         clear A760
         obtain rfl := Option.some.inj H
         obtain ⟨Ao77,co77,eo77⟩ := Kd.R_slice HO_6.out
         subst eo77
         go_wp2_with (first|(go_at_call 19;(with_reducible refine (laws_alive.calls kj8  t939 _ A76.out).mono ?_);rintro e w78 ⟨rfl,hb⟩;have n0_ := Aside0.mk (Kd.R_below (Kd.Rz HO_5.out) hb);have n1_ := Aside0.mk (Kd.R_below (Kd.Rz HO_6.out) hb);have n2_ := Aside0.mk (below_step bz hb);clear HO_5;clear HO_6;clear HB;have HO_5 := n0_;have HO_6 := n1_;have HB := n2_;clear n0_ n1_ n2_;(try clear hb);(try clear hb2);(try clear hk);(try clear hi)))
         go_ret
         exact ⟨by first|rfl|(simp [errW_none,errW_some] <;> rfl)|(simp [*,errW_none,errW_some] <;> rfl),bz⟩
        ·rw [if_neg c75] at H
         have c75b0 : ((t930.length : Int) == 0) = false := beq_eq_false_iff_ne.mpr c75
         have c75b1 : ((t930.length : Int) != 0) = true := bne_iff_ne.mpr c75
         have c75b2 : ¬ (t930 = []) := fun h_ => c75 (by rw [h_];rfl)
         obtain rfl := Option.some.inj H
         obtain ⟨Ao79,co79,eo79⟩ := Kd.R_slice HO_6.out
         subst eo79
         go_wp2
         go_ret
         exact ⟨by first|rfl|(simp [errW_none,errW_some] <;> rfl)|(simp [*,errW_none,errW_some] <;> rfl),bz⟩

/-- THE ONE PURE STATEMENT of laws_FnOrdPower: yours. -/
def laws_FnOrdPower.Pure : Prop := ∀ (l0 : List Int) (l1 : List Int),l0.length ≤ maxLen → l0.length * 1 ≤ 140737488351232 → (∀ x ∈ l0,(Lit.int .u8 x).wf = true) → l1.length ≤ maxLen → l1.length * 1 ≤ 140737488351232 → (∀ x ∈ l1,(Lit.int .u8 x).wf = true) → ∃ k,laws_FnOrdPower.f k l0 l1 = some true
theorem laws_FnOrdPower.walk (P : laws_FnOrdPower.Pure) (a0 : Option Addr) (len0 cap0 : Nat) (z0 : List Int) (a1 : Option Addr) (len1 cap1 : Nat) (z1 : List Int) (w : World) (w0 : (a0 = none ∧ len0 = 0 ∧ cap0 = 0 ∧ z0 = []) ∨ ∃ x,a0 = some x ∧ len0 ≤ cap0 ∧ cap0 ≤ maxLen ∧ z0.length = cap0 ∧ (∀ i,i < z0.length → w.cell? (x.add i) = some (.int .u8 (z0.getD i 0))) ∧ ∀ n ∈ z0,(Lit.int .u8 n).wf = true) (y0 : len0 * 1 ≤ 140737488351232) (w1 : (a1 = none ∧ len1 = 0 ∧ cap1 = 0 ∧ z1 = []) ∨ ∃ x,a1 = some x ∧ len1 ≤ cap1 ∧ cap1 ≤ maxLen ∧ z1.length = cap1 ∧ (∀ i,i < z1.length → w.cell? (x.add i) = some (.int .u8 (z1.getD i 0))) ∧ ∀ n ∈ z1,(Lit.int .u8 n).wf = true) (y1 : len1 * 1 ≤ 140737488351232) :
  Calls Try.prog 10 #[.slice a0 len0 cap0,.slice a1 len1 cap1] w fun e w' => e = .returned (.bool true) ∧ Below w.heap.size w w' := by
 obtain ⟨l0,rfl,hr0,hm0,hw0,hc0⟩ := ReadsInt.ofRowC w0
 obtain ⟨l1,rfl,hr1,hm1,hw1,hc1⟩ := ReadsInt.ofRowC w1
 obtain ⟨k,h⟩ := P l0 l1 hm0 y0 hw0 hm1 y1 hw1
 refine (laws_FnOrdPower.calls k _ _ l0 _ _ l1 true w (Kd.C_of_reads (d := (0 : Int)) (h1 := fun _ => rfl) hr0) hc0 (Kd.C_of_reads (d := (0 : Int)) (h1 := fun _ => rfl) hr1) hc1 h).mono ?_
 rintro e w' ⟨rfl,hd⟩
 exact ⟨rfl,hd⟩

end Go.Proofs.Ytninfokihgbgpaa.P
