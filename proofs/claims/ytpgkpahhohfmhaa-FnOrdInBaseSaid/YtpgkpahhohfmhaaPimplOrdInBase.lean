/- The walk of one Go function that the law reaches: it comes to what the Lean function of its name tells. -/
import Derived.Test.YtpgkpahhohfmhaaP0
import Derived.Test.YtpgkpahhohfmhaaPimplinBase
import Derived.Test.YtpgkpahhohfmhaaPimpltold
namespace Go.Proofs.Ytpgkpahhohfmhaa.P
open Go.RowKit Go.Proofs.YtpgkpahhohfmhaaW.PrintWords Go.Proofs.YtpgkpahhohfmhaaW.PrintLast Go.Proofs.YtpgkpahhohfmhaaW.PrintMore
attribute [local go_sem] max2_int min2_int max_two min_two max_three min_three max_four min_four   
set_option linter.unusedVariables false
set_option linter.unusedSimpArgs false

/-! ### impl_OrdInBase: function 12 -/
def impl_OrdInBase.j0 : Nat → Int → Int → Bool → Option (List Int)
 | 0,_,_,_ => none
 | k + 1,x0,x1,x20 => if x20 = true then (some ([] : List Int)) else ((impl_inBase.f k x0 x1).bind fun t190 => ((impl_told.f k t190).bind fun bt193 => (some bt193.1)))
def impl_OrdInBase.f (k : Nat) (a0 : Int) (a1 : Int) : Option (List Int) := if a0 < 0 then (impl_OrdInBase.j0 k a0 a1 true) else (if a0 > 1000000000 then (impl_OrdInBase.j0 k a0 a1 true) else (if a1 < 2 then (impl_OrdInBase.j0 k a0 a1 true) else (impl_OrdInBase.j0 k a0 a1 (decide (a1 > 90)))))
theorem impl_OrdInBase.mono_l : ∀ k,(∀ y0 y1 y2,LeO (impl_OrdInBase.j0 k y0 y1 y2) (impl_OrdInBase.j0 (k + 1) y0 y1 y2))
 | 0 => fun _ _ _ r h => by simp [impl_OrdInBase.j0] at h
 | k + 1 => by
  have ih0 := impl_OrdInBase.mono_l k
  ·intro y0 y1 y2
   unfold impl_OrdInBase.j0
   repeat' first|(with_reducible first|exact ih0 _ _ _|exact impl_inBase.mono _ _ _|exact impl_told.mono _ _|exact LeO.refl _|exact LeO.none _|refine LeO.ite ?_ ?_|refine LeO.bind ?_ (fun _ => ?_))|exact ih0 _ _ _|exact impl_inBase.mono _ _ _|exact impl_told.mono _ _|exact LeO.none _|refine LeO.ite ?_ ?_|refine LeO.bind ?_ (fun _ => ?_)
theorem impl_OrdInBase.mono : ∀ a0 a1 k,LeO (impl_OrdInBase.f k a0 a1) (impl_OrdInBase.f (k + 1) a0 a1) := by
 intro a0 a1 k
 have ih0 := impl_OrdInBase.mono_l k
 unfold impl_OrdInBase.f
 repeat' first|(with_reducible first|exact ih0 _ _ _|exact LeO.refl _|exact LeO.none _|refine LeO.ite ?_ ?_|refine LeO.bind ?_ (fun _ => ?_))|exact ih0 _ _ _|exact LeO.none _|refine LeO.ite ?_ ?_|refine LeO.bind ?_ (fun _ => ?_)
set_option maxHeartbeats 8000000 in
set_option maxRecDepth 100000 in
theorem impl_OrdInBase.calls (k : Nat) (a0 : Int) (a1 : Int) (r : List Int) (w : World) (h : impl_OrdInBase.f k a0 a1 = some r) :
  Calls Try.prog 12 #[.int .i64 a0,.int .i64 a1] w fun e w' => ∃ v0_ : Value,e = .returned (v0_) ∧ Kd.R (Kd.int .i64) 3 w' w.heap.size (fun _ => True) v0_ r ∧ Below w.heap.size w w' := by
 have HB := Aside0.mk (Below.refl w.heap.size w)
 have H : (if a0 < 0 then (impl_OrdInBase.j0 k a0 a1 true) else (if a0 > 1000000000 then (impl_OrdInBase.j0 k a0 a1 true) else (if a1 < 2 then (impl_OrdInBase.j0 k a0 a1 true) else (impl_OrdInBase.j0 k a0 a1 (decide (a1 > 90)))))) = some r := h
 clear h
 have HC3 := Aside0.mk H
 clear H
 go_enter Try.func12,Try.ntmps12
 go_upto_region 1 with (fail)
 go_cut [20] (fun v20 wc => ∃ (kq : Nat) (x20_2 : Bool),v20 = .bool x20_2 ∧ Aside0 (impl_OrdInBase.j0 kq a0 a1 x20_2 = some r) ∧ Aside0 (kq ≤ k) ∧ Aside0 (Below w.heap.size w wc))
 case first =>
  have H := HC3.out
  clear HC3
  by_cases c4 : a0 < 0
  ·rw [if_pos c4] at H
   have c4b0 : decide (a0 < 0) = true := decide_eq_true c4
   clear c4
   (first|rw [c4b0]|(simp only [i64_w,i32_w];rw [c4b0])|skip)
   have H' := Aside0.mk H
   clear H
   go_wp2
   go_meet
   case rel => exact ⟨_,(true),(by first|rfl|(simp;done)|(simp [*];done)),H',⟨by first|omega|exact Nat.le_refl _⟩,⟨bz⟩⟩
  ·rw [if_neg c4] at H
   have c4b0 : decide (a0 < 0) = false := decide_eq_false c4
   clear c4
   (first|rw [c4b0]|(simp only [i64_w,i32_w];rw [c4b0])|skip)
   by_cases c5 : a0 > 1000000000
   ·rw [if_pos c5] at H
    have c5b0 : decide (1000000000 < a0) = true := decide_eq_true c5
    clear c5
    have H' := Aside0.mk H
    clear H
    go_wp2
    go_meet
    case rel => exact ⟨_,(true),(by first|rfl|(simp;done)|(simp [*];done)),H',⟨by first|omega|exact Nat.le_refl _⟩,⟨bz⟩⟩
   ·rw [if_neg c5] at H
    have c5b0 : decide (1000000000 < a0) = false := decide_eq_false c5
    clear c5
    by_cases c6 : a1 < 2
    ·rw [if_pos c6] at H
     have c6b0 : decide (a1 < 2) = true := decide_eq_true c6
     clear c6
     have H' := Aside0.mk H
     clear H
     go_wp2
     go_meet
     case rel => exact ⟨_,(true),(by first|rfl|(simp;done)|(simp [*];done)),H',⟨by first|omega|exact Nat.le_refl _⟩,⟨bz⟩⟩
    ·rw [if_neg c6] at H
     have c6b0 : decide (a1 < 2) = false := decide_eq_false c6
     clear c6
     have H' := Aside0.mk H
     clear H
     go_wp2
     go_meet
     case rel => exact ⟨_,(decide (a1 > 90)),(by first|rfl|(simp;done)|(simp [*];done)),H',⟨by first|omega|exact Nat.le_refl _⟩,⟨bz⟩⟩
 case rest =>
  clear HC3
  try clear c1
  try clear p2
  try clear c4
  try clear c4b0
  try clear c5
  try clear c5b0
  try clear c6
  try clear c6b0
  obtain ⟨kq,x20_2,rfl,HA,HJ2,HB⟩ := hcut
  cases kq with
  | zero => exact absurd HA.out (by simp [impl_OrdInBase.j0])
  | succ kj2 =>
   have H := HA.out
   clear HA
   simp only [impl_OrdInBase.j0] at H
   by_cases c7 : x20_2 = true
   ·subst c7
    have H1 : (some ([] : List Int)) = some r := by rw [if_pos rfl] at H;exact H
    clear H
    have H := H1
    clear H1
    obtain rfl := Option.some.inj H
    go_wp2
    go_ret
    exact ⟨_,by first|rfl|(simp [errW_none,errW_some] <;> rfl)|(simp [*,errW_none,errW_some] <;> rfl),by first|exact Kd.R_nil _ _ _ _ _|exact Kd.N_nil _ _ _ _ _|exact Kd.V_nil _ _ _ _ _|exact Kd.Q_nil _ _ _ _ _|exact Kd.S_nil _ _ _ _ _,bz⟩
   ·replace c7 := Bool.eq_false_iff.mpr c7
    subst c7
    have H1 : ((impl_inBase.f kj2 a0 a1).bind fun t190 => ((impl_told.f kj2 t190).bind fun bt193 => (some bt193.1))) = some r := by rw [if_neg (show ¬ (false = true) by decide)] at H;exact H
    clear H
    have H := H1
    clear H1
    replace H := Option.bind_eq_some_iff.mp H
    obtain ⟨t190,A80,H⟩ := H
    replace H : ((impl_told.f kj2 t190).bind fun bt193 => (some bt193.1)) = some r := H
    have A8 := Aside0.mk A80
    clear A80
    replace H := Option.bind_eq_some_iff.mp H
    obtain ⟨⟨t193,t194⟩,A90,H⟩ := H
    replace H : (some t193) = some r := H
    have A9 := Aside0.mk A90
    clear A90
    obtain rfl := Option.some.inj H
    go_wp2_with (first|((with_reducible refine gate_callee (f := 50) rfl ?_);refine goesL_ (some 24) rfl rfl Try.func50 (by kernel_rfl) rfl #[.int .i64 a0,.int .i64 a1] rfl az ?_;(with_reducible refine (impl_inBase.calls kj2 a0 a1 t190 _ A8.out).mono ?_);rintro e w10 ⟨v191,rfl,ho0,hb⟩;refine ⟨_,rfl,?_⟩;have n0_ := Aside0.mk (Kd.R_lower ho0 (below_size bz));have n1_ := Aside0.mk (below_step bz hb);clear HB;have HO192 := n0_;have HB := n1_;clear n0_ n1_;(try clear hb);(try clear hb2);(try clear hk);(try clear hi);(try clear ho0);obtain ⟨Ao11,co11,eo11⟩ := Kd.R_slice HO192.out;subst eo11)|((with_reducible refine gate_callee (f := 49) rfl ?_);refine goesL_ (some 25) rfl rfl Try.func49 (by kernel_rfl) rfl #[.slice Ao11 t190.length co11] rfl az ?_;(with_reducible refine (impl_told.calls kj2 _ _ t190 t193 t194 _ ?side1 ?side2 A9.out).mono ?_);(case side1 => exact Kd.Cz (Kd.R_reads' HO192.out).2.2);(case side2 => exact (Kd.R_reads' HO192.out).2.1);rintro e w12 ⟨v195,rfl,ho0,hb⟩;refine ⟨_,rfl,?_⟩;have n0_ := Aside0.mk (Kd.R_below (Kd.Rz HO192.out) hb);have n1_ := Aside0.mk (Kd.R_lower ho0 (below_size bz));have n2_ := Aside0.mk (below_step bz hb);clear HO192;clear HB;have HO192 := n0_;have HO196 := n1_;have HB := n2_;clear n0_ n1_ n2_;(try clear hb);(try clear hb2);(try clear hk);(try clear hi);(try clear ho0)))
    go_ret
    exact ⟨_,by first|rfl|(simp [errW_none,errW_some] <;> rfl)|(simp [*,errW_none,errW_some] <;> rfl),by (with_reducible repeat (first|apply Kd.R_alloc|apply Kd.R_drewN|apply Kd.R_drew));exact HO196.out,bz⟩

end Go.Proofs.Ytpgkpahhohfmhaa.P
