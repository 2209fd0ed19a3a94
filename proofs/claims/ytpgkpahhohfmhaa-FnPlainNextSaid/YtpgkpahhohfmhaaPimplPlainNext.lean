/- The walk of one Go function that the law reaches: it comes to what the Lean function of its name tells. -/
import Derived.Test.YtpgkpahhohfmhaaP0
import Derived.Test.YtpgkpahhohfmhaaPimpldigits
namespace Go.Proofs.Ytpgkpahhohfmhaa.P
open Go.RowKit Go.Proofs.YtpgkpahhohfmhaaW.PrintWords Go.Proofs.YtpgkpahhohfmhaaW.PrintLast Go.Proofs.YtpgkpahhohfmhaaW.PrintMore
attribute [local go_sem] max2_int min2_int max_two min_two max_three min_three max_four min_four   
set_option linter.unusedVariables false
set_option linter.unusedSimpArgs false

/-! ### impl_PlainNext: function 24 -/
mutual
def impl_PlainNext.j0 : Nat → Int → Int → Bool → Option (Int)
 | 0,_,_,_ => none
 | k + 1,x0,x1,x21 => if x21 = true then (some (-1)) else ((impl_digits.f k x0 x1).bind fun t436 => (impl_PlainNext.l0 k x1 0 t436 (wrap64 ((t436.length : Int) - 1))))
def impl_PlainNext.l0 : Nat → Int → Int → List Int → Int → Option (Int)
 | 0,_,_,_,_ => none
 | k + 1,x1,x5,x6,x7 => if x7 ≥ 0 then (if 0 ≤ x7 then (if x7 < (x6.length : Int) then (impl_PlainNext.l0 k x1 (wrap64 ((wrap64 (x5 * (wrap64 (x1 + 1)))) + (rd x6 x7))) x6 (wrap64 (x7 - 1))) else (none)) else (none)) else (if (wrap64 (x5 - 1)) > 1000000000 then (some (-1)) else (some (wrap64 (x5 - 1))))
end
def impl_PlainNext.f (k : Nat) (a0 : Int) (a1 : Int) : Option (Int) := if a0 < 1 then (impl_PlainNext.j0 k a0 a1 true) else (if a0 > 1000000000 then (impl_PlainNext.j0 k a0 a1 true) else (if a1 < 2 then (impl_PlainNext.j0 k a0 a1 true) else (impl_PlainNext.j0 k a0 a1 (decide (a1 ≥ 90)))))
theorem impl_PlainNext.mono_l : ∀ k,(∀ y0 y1 y2,LeO (impl_PlainNext.j0 k y0 y1 y2) (impl_PlainNext.j0 (k + 1) y0 y1 y2)) ∧ (∀ y0 y1 y2 y3,LeO (impl_PlainNext.l0 k y0 y1 y2 y3) (impl_PlainNext.l0 (k + 1) y0 y1 y2 y3))
 | 0 => ⟨fun _ _ _ r h => by simp [impl_PlainNext.j0] at h,fun _ _ _ _ r h => by simp [impl_PlainNext.l0] at h⟩
 | k + 1 => by
  obtain ⟨ih0,ih1⟩ := impl_PlainNext.mono_l k
  refine ⟨?_,?_⟩
  ·intro y0 y1 y2
   unfold impl_PlainNext.j0
   repeat' first|(with_reducible first|exact ih0 _ _ _|exact ih1 _ _ _ _|exact impl_digits.mono _ _ _|exact LeO.refl _|exact LeO.none _|refine LeO.ite ?_ ?_|refine LeO.bind ?_ (fun _ => ?_))|exact ih0 _ _ _|exact ih1 _ _ _ _|exact impl_digits.mono _ _ _|exact LeO.none _|refine LeO.ite ?_ ?_|refine LeO.bind ?_ (fun _ => ?_)
  ·intro y0 y1 y2 y3
   unfold impl_PlainNext.l0
   repeat' first|(with_reducible first|exact ih1 _ _ _ _|exact LeO.refl _|exact LeO.none _|refine LeO.ite ?_ ?_|refine LeO.bind ?_ (fun _ => ?_))|exact ih1 _ _ _ _|exact LeO.none _|refine LeO.ite ?_ ?_|refine LeO.bind ?_ (fun _ => ?_)
theorem impl_PlainNext.mono : ∀ a0 a1 k,LeO (impl_PlainNext.f k a0 a1) (impl_PlainNext.f (k + 1) a0 a1) := by
 intro a0 a1 k
 obtain ⟨ih0,ih1⟩ := impl_PlainNext.mono_l k
 unfold impl_PlainNext.f
 repeat' first|(with_reducible first|exact ih0 _ _ _|exact ih1 _ _ _ _|exact LeO.refl _|exact LeO.none _|refine LeO.ite ?_ ?_|refine LeO.bind ?_ (fun _ => ?_))|exact ih0 _ _ _|exact ih1 _ _ _ _|exact LeO.none _|refine LeO.ite ?_ ?_|refine LeO.bind ?_ (fun _ => ?_)
set_option maxHeartbeats 8000000 in
set_option maxRecDepth 100000 in
theorem impl_PlainNext.calls (k : Nat) (a0 : Int) (a1 : Int) (r : Int) (w : World) (h : impl_PlainNext.f k a0 a1 = some r) :
  Calls Try.prog 24 #[.int .i64 a0,.int .i64 a1] w fun e w' => e = .returned (.int .i64 r) ∧ Below w.heap.size w w' := by
 have HB := Aside0.mk (Below.refl w.heap.size w)
 have H : (if a0 < 1 then (impl_PlainNext.j0 k a0 a1 true) else (if a0 > 1000000000 then (impl_PlainNext.j0 k a0 a1 true) else (if a1 < 2 then (impl_PlainNext.j0 k a0 a1 true) else (impl_PlainNext.j0 k a0 a1 (decide (a1 ≥ 90)))))) = some r := h
 clear h
 have HC3 := Aside0.mk H
 clear H
 go_enter Try.func24,Try.ntmps24
 go_upto_region 1 with (fail)
 go_cut [21] (fun v21 wc => ∃ (kq : Nat) (x21_2 : Bool),v21 = .bool x21_2 ∧ Aside0 (impl_PlainNext.j0 kq a0 a1 x21_2 = some r) ∧ Aside0 (kq ≤ k) ∧ Aside0 (Below w.heap.size w wc))
 case first =>
  have H := HC3.out
  clear HC3
  by_cases c4 : a0 < 1
  ·rw [if_pos c4] at H
   have c4b0 : decide (a0 < 1) = true := decide_eq_true c4
   clear c4
   (first|rw [c4b0]|(simp only [i64_w,i32_w];rw [c4b0])|skip)
   have H' := Aside0.mk H
   clear H
   go_wp2
   go_meet
   case rel => exact ⟨_,(true),(by first|rfl|(simp;done)|(simp [*];done)),H',⟨by first|omega|exact Nat.le_refl _⟩,⟨bz⟩⟩
  ·rw [if_neg c4] at H
   have c4b0 : decide (a0 < 1) = false := decide_eq_false c4
   clear c4
   (first|rw [c4b0]|(simp only [i64_w,i32_w];rw [c4b0])|skip)
   by_cases c5 : a0 > 1000000000
   ·rw [if_pos c5] at H
    have c5b0 : decide (1000000000 < a0) = true := decide_eq_true c5
    clear c5
    have H' := Aside0.mk H
    clear H
    go_wp2
    go_meet
    case rel => exact ⟨_,(true),(by first|rfl|(simp;done)|(simp [*];done)),H',⟨by first|omega|exact Nat.le_refl _⟩,⟨bz⟩⟩
   ·rw [if_neg c5] at H
    have c5b0 : decide (1000000000 < a0) = false := decide_eq_false c5
    clear c5
    by_cases c6 : a1 < 2
    ·rw [if_pos c6] at H
     have c6b0 : decide (a1 < 2) = true := decide_eq_true c6
     clear c6
     have H' := Aside0.mk H
     clear H
     go_wp2
     go_meet
     case rel => exact ⟨_,(true),(by first|rfl|(simp;done)|(simp [*];done)),H',⟨by first|omega|exact Nat.le_refl _⟩,⟨bz⟩⟩
    ·rw [if_neg c6] at H
     have c6b0 : decide (a1 < 2) = false := decide_eq_false c6
     clear c6
     have H' := Aside0.mk H
     clear H
     go_wp2
     go_meet
     case rel => exact ⟨_,(decide (a1 ≥ 90)),(by first|rfl|(simp;done)|(simp [*];done)),H',⟨by first|omega|exact Nat.le_refl _⟩,⟨bz⟩⟩
 case rest =>
  clear HC3
  try clear c2
  try clear p2
  try clear c4
  try clear c4b0
  try clear c5
  try clear c5b0
  try clear c6
  try clear c6b0
  obtain ⟨kq,x21_2,rfl,HA,HJ2,HB⟩ := hcut
  cases kq with
  | zero => exact absurd HA.out (by simp [impl_PlainNext.j0])
  | succ kj2 =>
   have H := HA.out
   clear HA
   simp only [impl_PlainNext.j0] at H
   by_cases c7 : x21_2 = true
   ·subst c7
    have H1 : (some (-1)) = some r := by rw [if_pos rfl] at H;exact H
    clear H
    have H := H1
    clear H1
    obtain rfl := Option.some.inj H
    go_wp2
    go_ret
    exact ⟨by first|rfl|(simp [errW_none,errW_some] <;> rfl)|(simp [*,errW_none,errW_some] <;> rfl),bz⟩
   ·replace c7 := Bool.eq_false_iff.mpr c7
    subst c7
    have H1 : ((impl_digits.f kj2 a0 a1).bind fun t436 => (impl_PlainNext.l0 kj2 a1 0 t436 (wrap64 ((t436.length : Int) - 1)))) = some r := by rw [if_neg (show ¬ (false = true) by decide)] at H;exact H
    clear H
    have H := H1
    clear H1
    replace H := Option.bind_eq_some_iff.mp H
    obtain ⟨t436,A80,H⟩ := H
    replace H : (impl_PlainNext.l0 kj2 a1 0 t436 (wrap64 ((t436.length : Int) - 1))) = some r := H
    have A8 := Aside0.mk A80
    clear A80
    have H' := Aside0.mk H
    clear H
    go_wp2_with (first|((with_reducible refine gate_callee (f := 58) rfl ?_);refine goesL_ (some 24) rfl rfl Try.func58 (by kernel_rfl) rfl #[.int .i64 a0,.int .i64 a1] rfl az ?_;(with_reducible refine (impl_digits.calls kj2 a0 a1 t436 _ A8.out).mono ?_);rintro e w9 ⟨v437,rfl,ho0,hb⟩;refine ⟨_,rfl,?_⟩;have n0_ := Aside0.mk (Kd.R_lower ho0 (below_size bz));have n1_ := Aside0.mk (below_step bz hb);clear HB;have HO438 := n0_;have HB := n1_;clear n0_ n1_;(try clear hb);(try clear hb2);(try clear hk);(try clear hi);(try clear ho0);obtain ⟨Ao10,co10,eo10⟩ := Kd.R_slice HO438.out;subst eo10))
    go_loopg [5,7] kj2 (fun kq v5 v7 w' => ∃ (x5_2 : Int) (x7_2 : Int),v5 = .int .i64 x5_2 ∧ v7 = .int .i64 x7_2 ∧ Aside0 (impl_PlainNext.l0 kq a1 x5_2 t436 x7_2 = some r) ∧ Aside0 (kq ≤ kj2) ∧ Aside0 (Kd.R (Kd.int .i64) 3 w' w.heap.size (fun _ => True) (.slice Ao10 t436.length co10) t436) ∧ Aside0 (Below w.heap.size w w'))
    case atStart => exact ⟨(0),(wrap64 ((t436.length : Int) - 1)),(by first|rfl|(simp;done)|(simp [*];done)),(by first|rfl|(simp;done)|(simp [*];done)),H',⟨Nat.le_refl _⟩,⟨by (with_reducible repeat (first|apply Kd.R_alloc|apply Kd.R_drewN|apply Kd.R_drew));exact HO438.out⟩,⟨bz⟩⟩
    case round =>
     clear H'
     try clear c2
     try clear p2
     try clear c4
     try clear c4b0
     try clear c5
     try clear c5b0
     try clear c6
     try clear c6b0
     try clear p6
     try clear c7
     try clear p2
     obtain ⟨x5_2,x7_2,rfl,rfl,HA,HK2,HO_6,HB⟩ := hrel
     cases gk with
     | zero => exact absurd HA.out (by simp [impl_PlainNext.l0])
     | succ k2 =>
      have H := HA.out
      clear HA
      simp only [impl_PlainNext.l0] at H
      by_cases c11 : x7_2 ≥ 0
      ·rw [if_pos c11] at H
       have c11b0 : decide (0 ≤ x7_2) = true := decide_eq_true c11
       clear c11
       by_cases c12 : 0 ≤ x7_2
       ·rw [if_pos c12] at H
        have c12b0 : decide (0 ≤ x7_2) = true := decide_eq_true c12
        clear c12
        by_cases c13 : x7_2 < (t436.length : Int)
        ·rw [if_pos c13] at H
         have c13b0 : decide (x7_2 < (t436.length : Int)) = true := decide_eq_true c13
         clear c13
         have H' := Aside0.mk H
         clear H
         have p439 : 0 ≤ (x7_2 : Int) := dz
         have q439 : x7_2 < (t436.length : Int) := dz
         obtain ⟨ad439,e439,hx439_0⟩ := Kd.at_int (Kd.R_reads' HO_6.out).2.2 x7_2 p439 q439
         cases e439
         replace p439 := eq_true p439
         replace q439 := eq_true q439
         go_wp2
         go_roundg k2
         case measure => have := HJ2.out;have := HK2.out;omega
         case rel => exact ⟨(wrap64 ((wrap64 (x5_2 * (wrap64 (a1 + 1)))) + (rd t436 x7_2))),(wrap64 (x7_2 - 1)),(by first|rfl|(simp;done)|(simp [*];done)),(by first|rfl|(simp;done)|(simp [*];done)),H',⟨by have := HJ2.out;have := HK2.out;omega⟩,⟨by (with_reducible repeat (first|apply Kd.R_alloc|apply Kd.R_drewN|apply Kd.R_drew));exact HO_6.out⟩,⟨bz⟩⟩
        ·rw [if_neg c13] at H
         exact absurd H (by simp)
       ·rw [if_neg c12] at H
        exact absurd H (by simp)
      ·rw [if_neg c11] at H
       have c11b0 : decide (0 ≤ x7_2) = false := decide_eq_false c11
       clear c11
       by_cases c14 : (wrap64 (x5_2 - 1)) > 1000000000
       ·rw [if_pos c14] at H
        have c14b0 : decide (1000000000 < (wrap64 (x5_2 - 1))) = true := decide_eq_true c14
        clear c14
        obtain rfl := Option.some.inj H
        go_wp2
        go_ret
        exact ⟨by first|rfl|(simp [errW_none,errW_some] <;> rfl)|(simp [*,errW_none,errW_some] <;> rfl),bz⟩
       ·rw [if_neg c14] at H
        have c14b0 : decide (1000000000 < (wrap64 (x5_2 - 1))) = false := decide_eq_false c14
        clear c14
        obtain rfl := Option.some.inj H
        go_wp2
        go_ret
        exact ⟨by first|rfl|(simp [errW_none,errW_some] <;> rfl)|(simp [*,errW_none,errW_some] <;> rfl),bz⟩

end Go.Proofs.Ytpgkpahhohfmhaa.P
