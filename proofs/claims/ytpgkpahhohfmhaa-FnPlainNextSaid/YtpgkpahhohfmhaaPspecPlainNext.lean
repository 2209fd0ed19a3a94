/- The walk of one Go function that the law reaches: it comes to what the Lean function of its name tells. -/
import Derived.Test.YtpgkpahhohfmhaaP0
import Derived.Test.YtpgkpahhohfmhaaPspecl1In
namespace Go.Proofs.Ytpgkpahhohfmhaa.P
open Go.RowKit Go.Proofs.YtpgkpahhohfmhaaW.PrintWords Go.Proofs.YtpgkpahhohfmhaaW.PrintLast Go.Proofs.YtpgkpahhohfmhaaW.PrintMore
attribute [local go_sem] max2_int min2_int max_two min_two max_three min_three max_four min_four   
set_option linter.unusedVariables false
set_option linter.unusedSimpArgs false

/-! ### spec_PlainNext: function 25 -/
mutual
def spec_PlainNext.j0 : Nat → Int → Int → Bool → Option (Int)
 | 0,_,_,_ => none
 | k + 1,x0,x1,x14 => if x14 = true then (some (-1)) else (spec_PlainNext.l0 k x0 x1 0 1)
def spec_PlainNext.l0 : Nat → Int → Int → Int → Int → Option (Int)
 | 0,_,_,_,_ => none
 | k + 1,x0,x1,x5,x6 => if x0 > 0 then (if x1 = 0 then (none) else (if (Int.tmod x0 x1) > 0 then (spec_PlainNext.j2 k x0 x1 x5 x6 (decide (x6 > 1000000000))) else (spec_PlainNext.j2 k x0 x1 x5 x6 false))) else (if (wrap64 (x5 - 1)) > 1000000000 then (some (-1)) else (some (wrap64 (x5 - 1))))
def spec_PlainNext.j2 : Nat → Int → Int → Int → Int → Bool → Option (Int)
 | 0,_,_,_,_,_ => none
 | k + 1,x0,x1,x5,x6,x24 => if x24 = true then (some (-1)) else (if x1 = 0 then (none) else (if (wrap64 (x5 + (wrap64 ((Int.tmod x0 x1) * x6)))) > 1000000001 then (some (-1)) else (spec_PlainNext.l0 k (wrap64 (Int.tdiv x0 x1)) x1 (wrap64 (x5 + (wrap64 ((Int.tmod x0 x1) * x6)))) (wrap64 (x6 * (wrap64 (x1 + 1)))))))
end
def spec_PlainNext.f (k : Nat) (a0 : Int) (a1 : Int) : Option (Int) := (spec_l1In.f a0 1 1000000000).bind fun t440 => (if t440 = true then ((spec_l1In.f a1 2 89).bind fun t441 => (spec_PlainNext.j0 k a0 a1 (!t441))) else (spec_PlainNext.j0 k a0 a1 true))
theorem spec_PlainNext.mono_l : ∀ k,(∀ y0 y1 y2,LeO (spec_PlainNext.j0 k y0 y1 y2) (spec_PlainNext.j0 (k + 1) y0 y1 y2)) ∧ (∀ y0 y1 y2 y3,LeO (spec_PlainNext.l0 k y0 y1 y2 y3) (spec_PlainNext.l0 (k + 1) y0 y1 y2 y3)) ∧ (∀ y0 y1 y2 y3 y4,LeO (spec_PlainNext.j2 k y0 y1 y2 y3 y4) (spec_PlainNext.j2 (k + 1) y0 y1 y2 y3 y4))
 | 0 => ⟨fun _ _ _ r h => by simp [spec_PlainNext.j0] at h,fun _ _ _ _ r h => by simp [spec_PlainNext.l0] at h,fun _ _ _ _ _ r h => by simp [spec_PlainNext.j2] at h⟩
 | k + 1 => by
  obtain ⟨ih0,ih1,ih2⟩ := spec_PlainNext.mono_l k
  refine ⟨?_,?_,?_⟩
  ·intro y0 y1 y2
   unfold spec_PlainNext.j0
   repeat' first|(with_reducible first|exact ih0 _ _ _|exact ih1 _ _ _ _|exact LeO.refl _|exact LeO.none _|refine LeO.ite ?_ ?_|refine LeO.bind ?_ (fun _ => ?_))|exact ih0 _ _ _|exact ih1 _ _ _ _|exact LeO.none _|refine LeO.ite ?_ ?_|refine LeO.bind ?_ (fun _ => ?_)
  ·intro y0 y1 y2 y3
   unfold spec_PlainNext.l0
   repeat' first|(with_reducible first|exact ih1 _ _ _ _|exact ih2 _ _ _ _ _|exact LeO.refl _|exact LeO.none _|refine LeO.ite ?_ ?_|refine LeO.bind ?_ (fun _ => ?_))|exact ih1 _ _ _ _|exact ih2 _ _ _ _ _|exact LeO.none _|refine LeO.ite ?_ ?_|refine LeO.bind ?_ (fun _ => ?_)
  ·intro y0 y1 y2 y3 y4
   unfold spec_PlainNext.j2
   repeat' first|(with_reducible first|exact ih1 _ _ _ _|exact ih2 _ _ _ _ _|exact LeO.refl _|exact LeO.none _|refine LeO.ite ?_ ?_|refine LeO.bind ?_ (fun _ => ?_))|exact ih1 _ _ _ _|exact ih2 _ _ _ _ _|exact LeO.none _|refine LeO.ite ?_ ?_|refine LeO.bind ?_ (fun _ => ?_)
theorem spec_PlainNext.mono : ∀ a0 a1 k,LeO (spec_PlainNext.f k a0 a1) (spec_PlainNext.f (k + 1) a0 a1) := by
 intro a0 a1 k
 obtain ⟨ih0,ih1,ih2⟩ := spec_PlainNext.mono_l k
 unfold spec_PlainNext.f
 repeat' first|(with_reducible first|exact ih0 _ _ _|exact ih1 _ _ _ _|exact ih2 _ _ _ _ _|exact LeO.refl _|exact LeO.none _|refine LeO.ite ?_ ?_|refine LeO.bind ?_ (fun _ => ?_))|exact ih0 _ _ _|exact ih1 _ _ _ _|exact ih2 _ _ _ _ _|exact LeO.none _|refine LeO.ite ?_ ?_|refine LeO.bind ?_ (fun _ => ?_)
set_option maxHeartbeats 8000000 in
set_option maxRecDepth 100000 in
theorem spec_PlainNext.calls (k : Nat) (a0 : Int) (a1 : Int) (r : Int) (w : World) (h : spec_PlainNext.f k a0 a1 = some r) :
  Calls Try.prog 25 #[.int .i64 a0,.int .i64 a1] w fun e w' => e = .returned (.int .i64 r) ∧ Drawn0 w w' := by
 have H : ((spec_l1In.f a0 1 1000000000).bind fun t440 => (if t440 = true then ((spec_l1In.f a1 2 89).bind fun t441 => (spec_PlainNext.j0 k a0 a1 (!t441))) else (spec_PlainNext.j0 k a0 a1 true))) = some r := h
 clear h
 have HC3 := Aside0.mk H
 clear H
 go_enter Try.func25,Try.ntmps25
 go_upto_region 1 with (fail)
 go_cut [14] (fun v14 wc => ∃ (kq : Nat) (x14_2 : Bool),v14 = .bool x14_2 ∧ Aside0 (spec_PlainNext.j0 kq a0 a1 x14_2 = some r) ∧ Aside0 (kq ≤ k) ∧ Drawn0 w wc)
 case first =>
  have H := HC3.out
  clear HC3
  replace H := Option.bind_eq_some_iff.mp H
  obtain ⟨t440,A40,H⟩ := H
  replace H : (if t440 = true then ((spec_l1In.f a1 2 89).bind fun t441 => (spec_PlainNext.j0 k a0 a1 (!t441))) else (spec_PlainNext.j0 k a0 a1 true)) = some r := H
  have A4 := Aside0.mk A40
  clear A40
  by_cases c5 : t440 = true
  ·subst c5
   have H1 : ((spec_l1In.f a1 2 89).bind fun t441 => (spec_PlainNext.j0 k a0 a1 (!t441))) = some r := by rw [if_pos rfl] at H;exact H
   clear H
   have H := H1
   clear H1
   replace H := Option.bind_eq_some_iff.mp H
   obtain ⟨t441,A60,H⟩ := H
   replace H : (spec_PlainNext.j0 k a0 a1 (!t441)) = some r := H
   have A6 := Aside0.mk A60
   clear A60
   have H' := Aside0.mk H
   clear H
   go_wp2_with (first|((with_reducible refine gate_callee (f := 51) rfl ?_);refine goesL_ (some 8) rfl rfl Try.func51 (by kernel_rfl) rfl #[.int .i64 a0,.int .i64 1,.int .i64 1000000000] rfl az ?_;(with_reducible refine (spec_l1In.calls a0 1 1000000000 true _ A4.out).mono ?_);rintro e w' ⟨rfl,⟨nd,rfl⟩⟩;refine ⟨_,rfl,?_⟩)|(go_at_call 51;(with_reducible refine (spec_l1In.calls a1 2 89 t441 _ A6.out).mono ?_);rintro e w' ⟨rfl,⟨nd,rfl⟩⟩))
   go_meet
   case rel => exact ⟨_,(!t441),(by first|rfl|(simp;done)|(simp [*];done)),H',⟨by first|omega|exact Nat.le_refl _⟩,by repeat (first|exact Drawn0.refl _|apply Drawn0.step)⟩
  ·replace c5 := Bool.eq_false_iff.mpr c5
   subst c5
   have H1 : (spec_PlainNext.j0 k a0 a1 true) = some r := by rw [if_neg (show ¬ (false = true) by decide)] at H;exact H
   clear H
   have H := H1
   clear H1
   have H' := Aside0.mk H
   clear H
   go_wp2_with (first|((with_reducible refine gate_callee (f := 51) rfl ?_);refine goesL_ (some 8) rfl rfl Try.func51 (by kernel_rfl) rfl #[.int .i64 a0,.int .i64 1,.int .i64 1000000000] rfl az ?_;(with_reducible refine (spec_l1In.calls a0 1 1000000000 false _ A4.out).mono ?_);rintro e w' ⟨rfl,⟨nd,rfl⟩⟩;refine ⟨_,rfl,?_⟩))
   go_meet
   case rel => exact ⟨_,(true),(by first|rfl|(simp;done)|(simp [*];done)),H',⟨by first|omega|exact Nat.le_refl _⟩,by repeat (first|exact Drawn0.refl _|apply Drawn0.step)⟩
 case rest =>
  clear HC3
  try clear c2
  try clear p2
  try clear c5
  obtain ⟨kq,x14_2,rfl,HA,HJ2,⟨mc2,rfl⟩⟩ := hcut
  cases kq with
  | zero => exact absurd HA.out (by simp [spec_PlainNext.j0])
  | succ kj2 =>
   have H := HA.out
   clear HA
   simp only [spec_PlainNext.j0] at H
   by_cases c7 : x14_2 = true
   ·subst c7
    have H1 : (some (-1)) = some r := by rw [if_pos rfl] at H;exact H
    clear H
    have H := H1
    clear H1
    obtain rfl := Option.some.inj H
    go_wp2
    go_ret
    exact ⟨by first|rfl|(simp;done)|(simp [*];done),by repeat (first|exact Drawn0.refl _|apply Drawn0.step)⟩
   ·replace c7 := Bool.eq_false_iff.mpr c7
    subst c7
    have H1 : (spec_PlainNext.l0 kj2 a0 a1 0 1) = some r := by rw [if_neg (show ¬ (false = true) by decide)] at H;exact H
    clear H
    have H := H1
    clear H1
    have H' := Aside0.mk H
    clear H
    go_wp2
    go_loopg [0,5,6] kj2 (fun kq v0 v5 v6 w' => ∃ (x0_2 : Int) (x5_2 : Int) (x6_2 : Int),v0 = .int .i64 x0_2 ∧ v5 = .int .i64 x5_2 ∧ v6 = .int .i64 x6_2 ∧ Aside0 (spec_PlainNext.l0 kq x0_2 a1 x5_2 x6_2 = some r) ∧ Aside0 (kq ≤ kj2) ∧ Drawn0 w w')
    case atStart => exact ⟨(a0),(0),(1),(by first|rfl|(simp;done)|(simp [*];done)),(by first|rfl|(simp;done)|(simp [*];done)),(by first|rfl|(simp;done)|(simp [*];done)),H',⟨Nat.le_refl _⟩,by repeat (first|exact Drawn0.refl _|apply Drawn0.step)⟩
    case round =>
     clear H'
     try clear c2
     try clear p2
     try clear c5
     try clear c7
     try clear p2
     obtain ⟨x0_2,x5_2,x6_2,rfl,rfl,rfl,HA,HK2,⟨m2,rfl⟩⟩ := hrel
     cases gk with
     | zero => exact absurd HA.out (by simp [spec_PlainNext.l0])
     | succ k2 =>
      have H := HA.out
      clear HA
      simp only [spec_PlainNext.l0] at H
      by_cases c8 : x0_2 > 0
      ·rw [if_pos c8] at H
       have c8b0 : decide (0 < x0_2) = true := decide_eq_true c8
       clear c8
       have HC9 := Aside0.mk H
       clear H
       go_upto_region 6 with (fail)
       go_cut [24] (fun v24 wc => ∃ (kq : Nat) (x24_8 : Bool),v24 = .bool x24_8 ∧ Aside0 (spec_PlainNext.j2 kq x0_2 a1 x5_2 x6_2 x24_8 = some r) ∧ Aside0 (kq ≤ k2) ∧ Drawn0 w wc)
       case first =>
        have H := HC9.out
        clear HC9
        by_cases c10 : a1 = 0
        ·rw [if_pos c10] at H
         exact absurd H (by simp)
        ·rw [if_neg c10] at H
         have c10b0 : (a1 == 0) = false := beq_eq_false_iff_ne.mpr c10
         have c10b1 : (a1 != 0) = true := bne_iff_ne.mpr c10
         (first|rw [c10b0]|(simp only [i64_w,i32_w];rw [c10b0])|skip)
         by_cases c11 : (Int.tmod x0_2 a1) > 0
         ·rw [if_pos c11] at H
          have c11b0 : decide (0 < (Int.tmod x0_2 a1)) = true := decide_eq_true c11
          clear c11
          have H' := Aside0.mk H
          clear H
          go_wp2
          go_meet
          case rel => exact ⟨_,(decide (x6_2 > 1000000000)),(by first|rfl|(simp;done)|(simp [*];done)),H',⟨by have := HJ2.out;have := HK2.out;first|omega|exact Nat.le_refl _⟩,by repeat (first|exact Drawn0.refl _|apply Drawn0.step)⟩
         ·rw [if_neg c11] at H
          have c11b0 : decide (0 < (Int.tmod x0_2 a1)) = false := decide_eq_false c11
          clear c11
          have H' := Aside0.mk H
          clear H
          go_wp2
          go_meet
          case rel => exact ⟨_,(false),(by first|rfl|(simp;done)|(simp [*];done)),H',⟨by have := HJ2.out;have := HK2.out;first|omega|exact Nat.le_refl _⟩,by repeat (first|exact Drawn0.refl _|apply Drawn0.step)⟩
       case rest =>
        clear HC9
        try clear c1
        try clear c2
        try clear p2
        try clear c5
        try clear c7
        try clear c8
        try clear c8b0
        try clear c10
        try clear c10b0
        try clear c10b1
        try clear c11
        try clear c11b0
        try clear p2
        obtain ⟨kq,x24_8,rfl,HA,HJ8,⟨mc8,rfl⟩⟩ := hcut
        cases kq with
        | zero => exact absurd HA.out (by simp [spec_PlainNext.j2])
        | succ kj8 =>
         have H := HA.out
         clear HA
         simp only [spec_PlainNext.j2] at H
         by_cases c12 : x24_8 = true
         ·subst c12
          have H1 : (some (-1)) = some r := by rw [if_pos rfl] at H;exact H
          clear H
          have H := H1
          clear H1
          obtain rfl := Option.some.inj H
          go_wp2
          go_ret
          exact ⟨by first|rfl|(simp;done)|(simp [*];done),by repeat (first|exact Drawn0.refl _|apply Drawn0.step)⟩
         ·replace c12 := Bool.eq_false_iff.mpr c12
          subst c12
          have H1 : (if a1 = 0 then (none) else (if (wrap64 (x5_2 + (wrap64 ((Int.tmod x0_2 a1) * x6_2)))) > 1000000001 then (some (-1)) else (spec_PlainNext.l0 kj8 (wrap64 (Int.tdiv x0_2 a1)) a1 (wrap64 (x5_2 + (wrap64 ((Int.tmod x0_2 a1) * x6_2)))) (wrap64 (x6_2 * (wrap64 (a1 + 1))))))) = some r := by rw [if_neg (show ¬ (false = true) by decide)] at H;exact H
          clear H
          have H := H1
          clear H1
          by_cases c13 : a1 = 0
          ·rw [if_pos c13] at H
           exact absurd H (by simp)
          ·rw [if_neg c13] at H
           have c13b0 : (a1 == 0) = false := beq_eq_false_iff_ne.mpr c13
           have c13b1 : (a1 != 0) = true := bne_iff_ne.mpr c13
           by_cases c14 : (wrap64 (x5_2 + (wrap64 ((Int.tmod x0_2 a1) * x6_2)))) > 1000000001
           ·rw [if_pos c14] at H
            have c14b0 : decide (1000000001 < (wrap64 (x5_2 + (wrap64 ((Int.tmod x0_2 a1) * x6_2))))) = true := decide_eq_true c14
            clear c14
            obtain rfl := Option.some.inj H
            go_wp2
            go_ret
            exact ⟨by first|rfl|(simp;done)|(simp [*];done),by repeat (first|exact Drawn0.refl _|apply Drawn0.step)⟩
           ·rw [if_neg c14] at H
            have c14b0 : decide (1000000001 < (wrap64 (x5_2 + (wrap64 ((Int.tmod x0_2 a1) * x6_2))))) = false := decide_eq_false c14
            clear c14
            have H' := Aside0.mk H
            clear H
            go_wp2
            go_roundg kj8
            case measure => have := HJ2.out;have := HK2.out;have := HJ8.out;omega
            case rel => exact ⟨(wrap64 (Int.tdiv x0_2 a1)),(wrap64 (x5_2 + (wrap64 ((Int.tmod x0_2 a1) * x6_2)))),(wrap64 (x6_2 * (wrap64 (a1 + 1)))),(by first|rfl|(simp;done)|(simp [*];done)),(by first|rfl|(simp;done)|(simp [*];done)),(by first|rfl|(simp;done)|(simp [*];done)),H',⟨by have := HJ2.out;have := HK2.out;have := HJ8.out;omega⟩,by repeat (first|exact Drawn0.refl _|apply Drawn0.step)⟩
      ·rw [if_neg c8] at H
       have c8b0 : decide (0 < x0_2) = false := decide_eq_false c8
       clear c8
       by_cases c15 : (wrap64 (x5_2 - 1)) > 1000000000
       ·rw [if_pos c15] at H
        have c15b0 : decide (1000000000 < (wrap64 (x5_2 - 1))) = true := decide_eq_true c15
        clear c15
        obtain rfl := Option.some.inj H
        go_wp2
        go_ret
        exact ⟨by first|rfl|(simp;done)|(simp [*];done),by repeat (first|exact Drawn0.refl _|apply Drawn0.step)⟩
       ·rw [if_neg c15] at H
        have c15b0 : decide (1000000000 < (wrap64 (x5_2 - 1))) = false := decide_eq_false c15
        clear c15
        obtain rfl := Option.some.inj H
        go_wp2
        go_ret
        exact ⟨by first|rfl|(simp;done)|(simp [*];done),by repeat (first|exact Drawn0.refl _|apply Drawn0.step)⟩

end Go.Proofs.Ytpgkpahhohfmhaa.P
