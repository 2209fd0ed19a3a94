/- The walk of one Go function that the law reaches: it comes to what the Lean function of its name tells. -/
import Derived.Test.YtninfokihgbgpaaP0
import Derived.Test.YtninfokihgbgpaaPspecl1In
namespace Go.Proofs.Ytninfokihgbgpaa.P
open Go.RowKit Go.Proofs.YtninfokihgbgpaaW.PrintWords Go.Proofs.YtninfokihgbgpaaW.PrintLast Go.Proofs.YtninfokihgbgpaaW.PrintMore
attribute [local go_sem] max2_int min2_int max_two min_two max_three min_three max_four min_four   
set_option linter.unusedVariables false
set_option linter.unusedSimpArgs false

/-! ### spec_OrdTower: function 39 -/
def spec_OrdTower.l0 : Nat → Int → List Int → Int → Option (List Int × Bool)
 | 0,_,_,_ => none
 | k + 1,x0,x4,x5 => if x5 < x0 then ((some (([1,1] : List Int) : List Int)).bind fun y829 => (if y829.length + x4.length < 17592186044416 then (spec_OrdTower.l0 k x0 (y829 ++ x4) (wrap64 (x5 + 1))) else (none))) else (some (x4,true))
def spec_OrdTower.f (k : Nat) (a0 : Int) : Option (List Int × Bool) := (spec_l1In.f a0 0 9).bind fun t822 => (if t822 = true then (spec_OrdTower.l0 k a0 (([1,1,0] : List Int)) 0) else (some ((([] : List Int)),false)))
theorem spec_OrdTower.mono_l : ∀ k,(∀ y0 y1 y2,LeO (spec_OrdTower.l0 k y0 y1 y2) (spec_OrdTower.l0 (k + 1) y0 y1 y2))
 | 0 => fun _ _ _ r h => by simp [spec_OrdTower.l0] at h
 | k + 1 => by
  have ih0 := spec_OrdTower.mono_l k
  ·intro y0 y1 y2
   unfold spec_OrdTower.l0
   repeat' first|(with_reducible first|exact ih0 _ _ _|exact LeO.refl _|exact LeO.none _|refine LeO.ite ?_ ?_|refine LeO.bind ?_ (fun _ => ?_))|exact ih0 _ _ _|exact LeO.none _|refine LeO.ite ?_ ?_|refine LeO.bind ?_ (fun _ => ?_)
theorem spec_OrdTower.mono : ∀ a0 k,LeO (spec_OrdTower.f k a0) (spec_OrdTower.f (k + 1) a0) := by
 intro a0 k
 have ih0 := spec_OrdTower.mono_l k
 unfold spec_OrdTower.f
 repeat' first|(with_reducible first|exact ih0 _ _ _|exact LeO.refl _|exact LeO.none _|refine LeO.ite ?_ ?_|refine LeO.bind ?_ (fun _ => ?_))|exact ih0 _ _ _|exact LeO.none _|refine LeO.ite ?_ ?_|refine LeO.bind ?_ (fun _ => ?_)
set_option maxHeartbeats 8000000 in
set_option maxRecDepth 100000 in
theorem spec_OrdTower.calls (k : Nat) (a0 : Int) (r1 : List Int) (r2 : Bool) (w : World) (h : spec_OrdTower.f k a0 = some (r1,r2)) :
  Calls Try.prog 39 #[.int .i64 a0] w fun e w' => ∃ v0_ : Value,e = .returned (.tuple #[v0_,.bool r2]) ∧ Kd.R (Kd.int .i64) 3 w' w.heap.size (fun _ => True) v0_ r1 ∧ Below w.heap.size w w' := by
 have HB := Aside0.mk (Below.refl w.heap.size w)
 have H : ((spec_l1In.f a0 0 9).bind fun t822 => (if t822 = true then (spec_OrdTower.l0 k a0 (([1,1,0] : List Int)) 0) else (some ((([] : List Int)),false)))) = some (r1,r2) := h
 clear h
 replace H := Option.bind_eq_some_iff.mp H
 obtain ⟨t822,A20,H⟩ := H
 replace H : (if t822 = true then (spec_OrdTower.l0 k a0 (([1,1,0] : List Int)) 0) else (some ((([] : List Int)),false))) = some (r1,r2) := H
 have A2 := Aside0.mk A20
 clear A20
 by_cases c3 : t822 = true
 ·subst c3
  have H1 : (spec_OrdTower.l0 k a0 (([1,1,0] : List Int)) 0) = some (r1,r2) := by rw [if_pos rfl] at H;exact H
  clear H
  have H := H1
  clear H1
  obtain ⟨y826,hy826⟩ : ∃ y_ : List Int,y_ = (([1,1,0] : List Int)) := ⟨_,rfl⟩
  replace H : (spec_OrdTower.l0 k a0 y826 0) = some (r1,r2) := by first|(rw [hy826];with_reducible exact H)|(have H2_ := (Option.bind_some _ _).symm.trans H;rw [hy826];with_reducible exact H2_)|(have H2_ := (Option.bind_some _ _).symm.trans H;with_reducible exact H2_)|with_reducible exact H|(rw [hy826];exact H)|exact H
  have Ny826 := Aside0.mk hy826
  clear hy826
  have H' := Aside0.mk H
  clear H
  go_enter Try.func39,Try.ntmps39
  go_wp2_with (first|((with_reducible refine gate_callee (f := 59) rfl ?_);refine goesL_ (some 7) rfl rfl Try.func59 (by kernel_rfl) rfl #[.int .i64 a0,.int .i64 0,.int .i64 9] rfl az ?_;(with_reducible refine (spec_l1In.calls a0 0 9 true _ A2.out).mono ?_);rintro e w' ⟨rfl,⟨nd,rfl⟩⟩;refine ⟨_,rfl,?_⟩)|((with_reducible refine gate_dst (N := 10) rfl ?_);refine Kd.R_lit (Kd.int .i64) _ 3 ?hg (N := 10) ?hd (xs := ([1,1,0] : List Int)) (inner := [.int .i64 1,.int .i64 1,.int .i64 0]) (ok := fun _ => True) (okp := fun _ => True) ?hr ?hp (fun _ hk => hk) trivial (Below.refl _ _) (Nat.le_refl _) (by simp) ?_;(case hd => rfl);(case hg => rfl);(case hr => first|(go_simp;done)|(go_simp;rfl));(case hp => exact (Reps.one (show Kd.M (Kd.int .i64) _ _ _ 1 [.int .i64 1] from rfl) (Reps.one (show Kd.M (Kd.int .i64) _ _ _ 1 [.int .i64 1] from rfl) (Reps.one (show Kd.M (Kd.int .i64) _ _ _ 0 [.int .i64 0] from rfl) (Reps.none _ _)))));intro v827 w4 ho5 hb hg_ hnew_;clear hg_ hnew_;(first|rw [← Ny826.out] at ho5|(simp only [Int.reduceToNat] at ho5;rw [← Ny826.out] at ho5));have n0_ := Aside0.mk (Kd.R_lower ho5 (below_size bz));have n1_ := Aside0.mk (below_step bz hb);clear HB;have HO828 := n0_;have HB := n1_;clear n0_ n1_;clear hb ho5))
  go_loopg [4,5] k (fun kq v4 v5 w' => ∃ (x4_1 : List Int) (x5_1 : Int),v5 = .int .i64 x5_1 ∧ Aside0 (spec_OrdTower.l0 kq a0 x4_1 x5_1 = some (r1,r2)) ∧ Aside0 (kq ≤ k) ∧ Aside0 (Kd.R (Kd.int .i64) 3 w' w.heap.size (fun _ => True) v4 x4_1) ∧ Aside0 (Below w.heap.size w w'))
  case atStart => exact ⟨(y826),(0),(by first|rfl|(simp;done)|(simp [*];done)),H',⟨Nat.le_refl _⟩,⟨by (with_reducible repeat (first|apply Kd.R_alloc|apply Kd.R_drewN|apply Kd.R_drew));exact HO828.out⟩,⟨bz⟩⟩
  case round =>
   clear H'
   try clear p2
   try clear c3
   try clear c5
   obtain ⟨x4_1,x5_1,rfl,HA,HK1,HO_4,HB⟩ := hrel
   cases gk with
   | zero => exact absurd HA.out (by simp [spec_OrdTower.l0])
   | succ k1 =>
    have H := HA.out
    clear HA
    simp only [spec_OrdTower.l0] at H
    by_cases c6 : x5_1 < a0
    ·rw [if_pos c6] at H
     have c6b0 : decide (x5_1 < a0) = true := decide_eq_true c6
     clear c6
     obtain ⟨y829,hy829⟩ : ∃ y_ : List Int,y_ = (([1,1] : List Int)) := ⟨_,rfl⟩
     replace H : (if y829.length + x4_1.length < 17592186044416 then (spec_OrdTower.l0 k1 a0 (y829 ++ x4_1) (wrap64 (x5_1 + 1))) else (none)) = some (r1,r2) := by first|(rw [hy829];with_reducible exact H)|(have H2_ := (Option.bind_some _ _).symm.trans H;rw [hy829];with_reducible exact H2_)|(have H2_ := (Option.bind_some _ _).symm.trans H;with_reducible exact H2_)|with_reducible exact H|(rw [hy829];exact H)|exact H
     have Ny829 := Aside0.mk hy829
     clear hy829
     by_cases c7 : y829.length + x4_1.length < 17592186044416
     ·rw [if_pos c7] at H
      have LMc7 := Aside0.mk c7
      clear c7
      obtain ⟨y832,hy832⟩ : ∃ y_ : List Int,y_ = (y829 ++ x4_1) := ⟨_,rfl⟩
      replace H : (spec_OrdTower.l0 k1 a0 y832 (wrap64 (x5_1 + 1))) = some (r1,r2) := by first|(rw [hy832];with_reducible exact H)|(have H2_ := (Option.bind_some _ _).symm.trans H;rw [hy832];with_reducible exact H2_)|(have H2_ := (Option.bind_some _ _).symm.trans H;with_reducible exact H2_)|with_reducible exact H|(rw [hy832];exact H)|exact H
      have Ny832 := Aside0.mk hy832
      clear hy832
      have H' := Aside0.mk H
      clear H
      go_wp2_with (first|((with_reducible refine gate_dst (N := 16) rfl ?_);refine Kd.R_lit (Kd.int .i64) _ 3 ?hg (N := 16) ?hd (xs := ([1,1] : List Int)) (inner := [.int .i64 1,.int .i64 1]) (ok := fun _ => True) (okp := fun _ => True) ?hr ?hp (fun _ hk => hk) trivial (Below.refl _ _) (Nat.le_refl _) (by simp) ?_;(case hd => rfl);(case hg => rfl);(case hr => first|(go_simp;done)|(go_simp;rfl));(case hp => exact (Reps.one (show Kd.M (Kd.int .i64) _ _ _ 1 [.int .i64 1] from rfl) (Reps.one (show Kd.M (Kd.int .i64) _ _ _ 1 [.int .i64 1] from rfl) (Reps.none _ _))));intro v830 w8 ho9 hb hg_ hnew_;clear hg_ hnew_;(first|rw [← Ny829.out] at ho9|(simp only [Int.reduceToNat] at ho9;rw [← Ny829.out] at ho9));have n0_ := Aside0.mk (Kd.R_elder' (Kd.Rz HO_4.out) (Kd.R_base ho9) hb);have n1_ := Aside0.mk (Kd.R_lower (Kd.R_new' ho9 (Kd.R_lt (Kd.Rz HO_4.out))) (below_size bz));have n2_ := Aside0.mk (below_step bz hb);clear HO_4;clear HB;have HO_4 := n0_;have HO831 := n1_;have HB := n2_;clear n0_ n1_ n2_;clear hb ho9;obtain ⟨Ao11,co11,eo11⟩ := Kd.R_slice HO_4.out;subst eo11)|((with_reducible refine gate_builtin (b := .append) (xs := #[.tmp 16,.tmp 17]) rfl ?_);at_builtin;refine Kd.R_append_rows (Kd.int .i64) (w0 := w) w.heap.size rfl (.tmp 16) (.tmp 17) 24 3 (.int .i64 0) 8 rfl Try.underlying24 info3 rfl (by decide) (by omega) v830 y829 x4_1 _ _ _ (fun k_ => some k_ ≠ (.slice Ao11 x4_1.length co11 : Value).ownBlock) (fun _ => False) rfl rfl ?aO ?aR (fun _ _ h => h) (fun _ h => h.elim) ?aF ?aB ?aS ?aL ?_;(case aR => repeat (first|exact (Kd.R_reads' HO_4.out).2.2|(with_reducible refine Kd.C_alloc ?_ _)|(with_reducible refine Kd.C_drewN ?_ _)|(with_reducible refine Kd.C_drew ?_)));(case aB => exact bz);(case aF => exact (fun k_ hk => Kd.fresh' (Kd.R_lt (Kd.Rz HO_4.out)) k_ hk));(case aO => exact (by (with_reducible repeat (first|apply Kd.R_alloc|apply Kd.R_drewN|apply Kd.R_drew));exact Kd.R_mono HO831.out (fun _ hk => hk.2)));(case aS => exact (below_size bz));(case aL => have := LMc7.out;omega);intro v833 w10 ho hb hg hat;rw [← Ny832.out] at ho;have n0_ := Aside0.mk (Kd.R_after (ok := (fun _ => True)) (Kd.Rz HO_4.out) hg hat);have n1_ := Aside0.mk (hb);have n2_ := Aside0.mk (ho);clear HO_4;clear HB;clear HO831;have HO_4 := n0_;have HB := n1_;have HO834 := n2_;clear n0_ n1_ n2_;clear ho hb hg hat))
      go_roundg k1
      case measure => have := HK1.out;omega
      case rel => exact ⟨(y832),(wrap64 (x5_1 + 1)),(by first|rfl|(simp;done)|(simp [*];done)),H',⟨by have := HK1.out;omega⟩,⟨by (with_reducible repeat (first|apply Kd.R_alloc|apply Kd.R_drewN|apply Kd.R_drew));exact Kd.R_mono HO834.out (fun _ hk => trivial)⟩,⟨bz⟩⟩
     ·rw [if_neg c7] at H
      exact absurd H (by simp)
    ·rw [if_neg c6] at H
     have c6b0 : decide (x5_1 < a0) = false := decide_eq_false c6
     clear c6
     simp only [Option.some.injEq,Prod.mk.injEq] at H
     obtain ⟨rfl,rfl⟩ := H
     go_wp2
     go_ret2
     exact ⟨_,by first|rfl|(simp [errW_none,errW_some] <;> rfl)|(simp [*,errW_none,errW_some] <;> rfl),by (with_reducible repeat (first|apply Kd.R_alloc|apply Kd.R_drewN|apply Kd.R_drew));exact HO_4.out,bz⟩
 ·replace c3 := Bool.eq_false_iff.mpr c3
  subst c3
  have H1 : (some ((([] : List Int)),false)) = some (r1,r2) := by rw [if_neg (show ¬ (false = true) by decide)] at H;exact H
  clear H
  have H := H1
  clear H1
  obtain ⟨y823,hy823⟩ : ∃ y_ : List Int,y_ = (([] : List Int)) := ⟨_,rfl⟩
  replace H : (some (y823,false)) = some (r1,r2) := by first|(rw [hy823];with_reducible exact H)|(have H2_ := (Option.bind_some _ _).symm.trans H;rw [hy823];with_reducible exact H2_)|(have H2_ := (Option.bind_some _ _).symm.trans H;with_reducible exact H2_)|with_reducible exact H|(rw [hy823];exact H)|exact H
  have Ny823 := Aside0.mk hy823
  clear hy823
  simp only [Option.some.injEq,Prod.mk.injEq] at H
  obtain ⟨rfl,rfl⟩ := H
  go_enter Try.func39,Try.ntmps39
  go_wp2_with (first|((with_reducible refine gate_callee (f := 59) rfl ?_);refine goesL_ (some 7) rfl rfl Try.func59 (by kernel_rfl) rfl #[.int .i64 a0,.int .i64 0,.int .i64 9] rfl az ?_;(with_reducible refine (spec_l1In.calls a0 0 9 false _ A2.out).mono ?_);rintro e w' ⟨rfl,⟨nd,rfl⟩⟩;refine ⟨_,rfl,?_⟩)|((with_reducible refine gate_dst (N := 9) rfl ?_);refine Kd.R_lit (Kd.int .i64) _ 3 ?hg (N := 9) ?hd (xs := ([] : List Int)) (inner := []) (ok := fun _ => True) (okp := fun _ => True) ?hr ?hp (fun _ hk => hk) trivial (Below.refl _ _) (Nat.le_refl _) (by simp) ?_;(case hd => rfl);(case hg => rfl);(case hr => first|(go_simp;done)|(go_simp;rfl));(case hp => exact (Reps.none _ _));intro v824 w12 ho13 hb hg_ hnew_;clear hg_ hnew_;(first|rw [← Ny823.out] at ho13|(simp only [Int.reduceToNat] at ho13;rw [← Ny823.out] at ho13));have n0_ := Aside0.mk (Kd.R_lower ho13 (below_size bz));have n1_ := Aside0.mk (below_step bz hb);clear HB;have HO825 := n0_;have HB := n1_;clear n0_ n1_;clear hb ho13))
  go_ret2
  exact ⟨_,by first|rfl|(simp [errW_none,errW_some] <;> rfl)|(simp [*,errW_none,errW_some] <;> rfl),by (with_reducible repeat (first|apply Kd.R_alloc|apply Kd.R_drewN|apply Kd.R_drew));exact HO825.out,bz⟩

end Go.Proofs.Ytninfokihgbgpaa.P
