/- The walk of one Go function that the law reaches: it comes to what the Lean function of its name tells. -/
import Derived.Test.YtpgkpahhohfmhaaP0
import Derived.Test.YtpgkpahhohfmhaaPimplordOf
import Derived.Test.YtpgkpahhohfmhaaPimplstep
import Derived.Test.YtpgkpahhohfmhaaPimpltold
namespace Go.Proofs.Ytpgkpahhohfmhaa.P
open Go.RowKit Go.Proofs.YtpgkpahhohfmhaaW.PrintWords Go.Proofs.YtpgkpahhohfmhaaW.PrintLast Go.Proofs.YtpgkpahhohfmhaaW.PrintMore
attribute [local go_sem] max2_int min2_int max_two min_two max_three min_three max_four min_four   
set_option linter.unusedVariables false
set_option linter.unusedSimpArgs false

/-! ### impl_OrdStep: function 34 -/
def impl_OrdStep.j0 : Nat → Int → List (S69) → Bool → Option (List Int × Bool)
 | 0,_,_,_ => none
 | k + 1,x1,x6,x22 => if x22 = true then (some (([] : List Int),false)) else ((impl_step.f k x6 x1).bind fun t732 => ((impl_told.f k t732).bind fun bt735 => (some (bt735.1,bt735.2))))
def impl_OrdStep.f (k : Nat) (l0 : List Int) (a1 : Int) : Option (List Int × Bool) := (impl_ordOf.f k l0).bind fun bt728 => (if bt728.2 = true then (if a1 < 0 then (impl_OrdStep.j0 k a1 bt728.1 true) else (impl_OrdStep.j0 k a1 bt728.1 (decide (a1 > 99)))) else (impl_OrdStep.j0 k a1 bt728.1 true))
theorem impl_OrdStep.mono_l : ∀ k,(∀ y0 y1 y2,LeO (impl_OrdStep.j0 k y0 y1 y2) (impl_OrdStep.j0 (k + 1) y0 y1 y2))
 | 0 => fun _ _ _ r h => by simp [impl_OrdStep.j0] at h
 | k + 1 => by
  have ih0 := impl_OrdStep.mono_l k
  ·intro y0 y1 y2
   unfold impl_OrdStep.j0
   repeat' first|(with_reducible first|exact ih0 _ _ _|exact impl_step.mono _ _ _|exact impl_told.mono _ _|exact LeO.refl _|exact LeO.none _|refine LeO.ite ?_ ?_|refine LeO.bind ?_ (fun _ => ?_))|exact ih0 _ _ _|exact impl_step.mono _ _ _|exact impl_told.mono _ _|exact LeO.none _|refine LeO.ite ?_ ?_|refine LeO.bind ?_ (fun _ => ?_)
theorem impl_OrdStep.mono : ∀ a0 a1 k,LeO (impl_OrdStep.f k a0 a1) (impl_OrdStep.f (k + 1) a0 a1) := by
 intro a0 a1 k
 have ih0 := impl_OrdStep.mono_l k
 unfold impl_OrdStep.f
 repeat' first|(with_reducible first|exact ih0 _ _ _|exact impl_ordOf.mono _ _|exact LeO.refl _|exact LeO.none _|refine LeO.ite ?_ ?_|refine LeO.bind ?_ (fun _ => ?_))|exact ih0 _ _ _|exact impl_ordOf.mono _ _|exact LeO.none _|refine LeO.ite ?_ ?_|refine LeO.bind ?_ (fun _ => ?_)
set_option maxHeartbeats 8000000 in
set_option maxRecDepth 100000 in
theorem impl_OrdStep.calls (k : Nat) (A0 : Option Addr) (c0 : Nat) (l0 : List Int) (a1 : Int) (r1 : List Int) (r2 : Bool) (w : World) (hr0 : Kd.C (Kd.int .i64) w A0 l0.length l0) (hc0 : l0.length ≤ c0) (h : impl_OrdStep.f k l0 a1 = some (r1,r2)) :
  Calls Try.prog 34 #[.slice A0 l0.length c0,.int .i64 a1] w fun e w' => ∃ v0_ : Value,e = .returned (.tuple #[v0_,.bool r2]) ∧ Kd.R (Kd.int .i64) 3 w' w.heap.size (fun _ => True) v0_ r1 ∧ Below w.heap.size w w' := by
 have HR0 := Aside0.mk hr0
 have HC0 := Aside0.mk hc0
 clear hr0 hc0
 have HB := Aside0.mk (Below.refl w.heap.size w)
 have H : ((impl_ordOf.f k l0).bind fun bt728 => (if bt728.2 = true then (if a1 < 0 then (impl_OrdStep.j0 k a1 bt728.1 true) else (impl_OrdStep.j0 k a1 bt728.1 (decide (a1 > 99)))) else (impl_OrdStep.j0 k a1 bt728.1 true))) = some (r1,r2) := h
 clear h
 replace H := Option.bind_eq_some_iff.mp H
 obtain ⟨⟨t728,t729⟩,A30,H⟩ := H
 replace H : (if t729 = true then (if a1 < 0 then (impl_OrdStep.j0 k a1 t728 true) else (impl_OrdStep.j0 k a1 t728 (decide (a1 > 99)))) else (impl_OrdStep.j0 k a1 t728 true)) = some (r1,r2) := H
 have A3 := Aside0.mk A30
 clear A30
 have HC4 := Aside0.mk H
 clear H
 go_enter Try.func34,Try.ntmps34
 go_upto_region 2 with (first|((with_reducible refine gate_callee (f := 54) rfl ?_);refine goesL_ (some 10) rfl rfl Try.func54 (by kernel_rfl) rfl #[.slice A0 l0.length c0] rfl az ?_;(with_reducible refine (impl_ordOf.calls k _ _ l0 t728 t729 _ ?side1 ?side2 A3.out).mono ?_);(case side1 => exact Kd.Cz HR0.out);(case side2 => exact HC0.out);rintro e w5 ⟨v730,rfl,ho0,hb⟩;refine ⟨_,rfl,?_⟩;have n0_ := Aside0.mk (Kd.N_lower (Kd.N_mono (ok' := fun k_ => True) (Kd.R_N (Kd.R_bound ho0)) (fun k_ hk_ => trivial)) (below_size bz));have n1_ := Aside0.mk (below_step bz hb);clear HB;have HO731 := n0_;have HB := n1_;clear n0_ n1_;(try clear hb);(try clear hb2);(try clear hk);(try clear hi);(try clear ho0)))
 (try simp only [Act.put,List.setIfInBounds_toArray,List.set_cons_zero,List.set_cons_succ])
 go_cut [22] (fun v22 wc => ∃ (kq : Nat) (x22_3 : Bool),v22 = .bool x22_3 ∧ Aside0 (impl_OrdStep.j0 kq a1 t728 x22_3 = some (r1,r2)) ∧ Aside0 (kq ≤ k) ∧ Aside0 (Kd.N k69 69 wc w.heap.size (fun _ => True) v730 t728) ∧ Aside0 (Below w.heap.size w wc))
 case first =>
  have H := HC4.out
  clear HC4
  by_cases c6 : t729 = true
  ·subst c6
   have H1 : (if a1 < 0 then (impl_OrdStep.j0 k a1 t728 true) else (impl_OrdStep.j0 k a1 t728 (decide (a1 > 99)))) = some (r1,r2) := by rw [if_pos rfl] at H;exact H
   clear H
   have H := H1
   clear H1
   by_cases c7 : a1 < 0
   ·rw [if_pos c7] at H
    have c7b0 : decide (a1 < 0) = true := decide_eq_true c7
    clear c7
    (first|rw [c7b0]|(simp only [i64_w,i32_w];rw [c7b0])|skip)
    have H' := Aside0.mk H
    clear H
    go_wp2
    go_meet
    case rel => exact ⟨_,(true),(by first|rfl|(simp;done)|(simp [*];done)),H',⟨by first|omega|exact Nat.le_refl _⟩,⟨by (with_reducible repeat (first|apply Kd.N_alloc|apply Kd.N_drewN|apply Kd.N_drew));exact HO731.out⟩,⟨bz⟩⟩
   ·rw [if_neg c7] at H
    have c7b0 : decide (a1 < 0) = false := decide_eq_false c7
    clear c7
    (first|rw [c7b0]|(simp only [i64_w,i32_w];rw [c7b0])|skip)
    have H' := Aside0.mk H
    clear H
    go_wp2
    go_meet
    case rel => exact ⟨_,(decide (a1 > 99)),(by first|rfl|(simp;done)|(simp [*];done)),H',⟨by first|omega|exact Nat.le_refl _⟩,⟨by (with_reducible repeat (first|apply Kd.N_alloc|apply Kd.N_drewN|apply Kd.N_drew));exact HO731.out⟩,⟨bz⟩⟩
  ·replace c6 := Bool.eq_false_iff.mpr c6
   subst c6
   have H1 : (impl_OrdStep.j0 k a1 t728 true) = some (r1,r2) := by rw [if_neg (show ¬ (false = true) by decide)] at H;exact H
   clear H
   have H := H1
   clear H1
   have H' := Aside0.mk H
   clear H
   go_wp2
   go_meet
   case rel => exact ⟨_,(true),(by first|rfl|(simp;done)|(simp [*];done)),H',⟨by first|omega|exact Nat.le_refl _⟩,⟨by (with_reducible repeat (first|apply Kd.N_alloc|apply Kd.N_drewN|apply Kd.N_drew));exact HO731.out⟩,⟨bz⟩⟩
 case rest =>
  clear HC4
  try clear p2
  try clear c3
  try clear c5
  try clear c6
  try clear c7
  try clear c7b0
  obtain ⟨kq,x22_3,rfl,HA,HJ3,HO_6,HB⟩ := hcut
  cases kq with
  | zero => exact absurd HA.out (by simp [impl_OrdStep.j0])
  | succ kj3 =>
   have H := HA.out
   clear HA
   simp only [impl_OrdStep.j0] at H
   by_cases c8 : x22_3 = true
   ·subst c8
    have H1 : (some (([] : List Int),false)) = some (r1,r2) := by rw [if_pos rfl] at H;exact H
    clear H
    have H := H1
    clear H1
    simp only [Option.some.injEq,Prod.mk.injEq] at H
    obtain ⟨rfl,rfl⟩ := H
    go_wp2
    go_ret2
    exact ⟨_,by first|rfl|(simp [errW_none,errW_some] <;> rfl)|(simp [*,errW_none,errW_some] <;> rfl),by first|exact Kd.R_nil _ _ _ _ _|exact Kd.N_nil _ _ _ _ _|exact Kd.V_nil _ _ _ _ _|exact Kd.Q_nil _ _ _ _ _|exact Kd.S_nil _ _ _ _ _,bz⟩
   ·replace c8 := Bool.eq_false_iff.mpr c8
    subst c8
    have H1 : ((impl_step.f kj3 t728 a1).bind fun t732 => ((impl_told.f kj3 t732).bind fun bt735 => (some (bt735.1,bt735.2)))) = some (r1,r2) := by rw [if_neg (show ¬ (false = true) by decide)] at H;exact H
    clear H
    have H := H1
    clear H1
    replace H := Option.bind_eq_some_iff.mp H
    obtain ⟨t732,A90,H⟩ := H
    replace H : ((impl_told.f kj3 t732).bind fun bt735 => (some (bt735.1,bt735.2))) = some (r1,r2) := H
    have A9 := Aside0.mk A90
    clear A90
    replace H := Option.bind_eq_some_iff.mp H
    obtain ⟨⟨t735,t736⟩,A100,H⟩ := H
    replace H : (some (t735,t736)) = some (r1,r2) := H
    have A10 := Aside0.mk A100
    clear A100
    simp only [Option.some.injEq,Prod.mk.injEq] at H
    obtain ⟨rfl,rfl⟩ := H
    obtain ⟨Ao11,co11,eo11⟩ := Kd.N_slice HO_6.out
    subst eo11
    go_wp2_with (first|((with_reducible refine gate_callee (f := 66) rfl ?_);refine goesL_ (some 25) rfl rfl Try.func66 (by kernel_rfl) rfl #[.slice Ao11 t728.length co11,.int .i64 a1] rfl az ?_;(with_reducible refine (impl_step.calls kj3 (fun k_ => True) _ _ t728 a1 t732 _ ?side1 A9.out).mono ?_);(case side1 => exact Kd.N_V (HO_6.out));rintro e w12 ⟨v733,rfl,ho0,hb⟩;refine ⟨_,rfl,?_⟩;have n0_ := Aside0.mk (Kd.N_elder' (Kd.Nz HO_6.out) (Kd.N_base ho0) hb);have n1_ := Aside0.mk (Kd.N_lower (Kd.N_mono (ok' := fun k_ => True) ho0 (fun k_ hk_ => trivial)) (below_size bz));have n2_ := Aside0.mk (below_step bz hb);clear HO_6;clear HB;have HO_6 := n0_;have HO734 := n1_;have HB := n2_;clear n0_ n1_ n2_;(try clear hb);(try clear hb2);(try clear hk);(try clear hi);(try clear ho0);obtain ⟨Ao13,co13,eo13⟩ := Kd.N_slice HO734.out;subst eo13)|((with_reducible refine gate_callee (f := 49) rfl ?_);refine goesL_ (some 26) rfl rfl Try.func49 (by kernel_rfl) rfl #[.slice Ao13 t732.length co13] rfl az ?_;(with_reducible refine (impl_told.calls kj3 _ _ t732 t735 t736 _ ?side1 ?side2 A10.out).mono ?_);(case side1 => exact Kd.Cz (Kd.N_reads' HO734.out).2.2);(case side2 => exact (Kd.N_reads' HO734.out).2.1);rintro e w14 ⟨v737,rfl,ho0,hb⟩;refine ⟨_,rfl,?_⟩;have n0_ := Aside0.mk (Kd.N_elder' (Kd.Nz HO_6.out) (Kd.R_base ho0) hb);have n1_ := Aside0.mk (Kd.N_elder' (Kd.Nz HO734.out) (Kd.R_base ho0) hb);have n2_ := Aside0.mk (Kd.R_lower ho0 (below_size bz));have n3_ := Aside0.mk (below_step bz hb);clear HO_6;clear HO734;clear HB;have HO_6 := n0_;have HO734 := n1_;have HO738 := n2_;have HB := n3_;clear n0_ n1_ n2_ n3_;(try clear hb);(try clear hb2);(try clear hk);(try clear hi);(try clear ho0)))
    go_ret2
    exact ⟨_,by first|rfl|(simp [errW_none,errW_some] <;> rfl)|(simp [*,errW_none,errW_some] <;> rfl),by (with_reducible repeat (first|apply Kd.R_alloc|apply Kd.R_drewN|apply Kd.R_drew));exact HO738.out,bz⟩

end Go.Proofs.Ytpgkpahhohfmhaa.P
