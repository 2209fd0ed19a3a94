/- The walk of one Go function that the law reaches: it comes to what the Lean function of its name tells. -/
import Derived.Test.YtninfokihgbgpaaP0
import Derived.Test.YtninfokihgbgpaaPimplnumber
import Derived.Test.YtninfokihgbgpaaPimplpower
import Derived.Test.YtninfokihgbgpaaPimpltold
namespace Go.Proofs.Ytninfokihgbgpaa.P
open Go.RowKit Go.Proofs.YtninfokihgbgpaaW.PrintWords Go.Proofs.YtninfokihgbgpaaW.PrintLast Go.Proofs.YtninfokihgbgpaaW.PrintMore
attribute [local go_sem] max2_int min2_int max_two min_two max_three min_three max_four min_four   
set_option linter.unusedVariables false
set_option linter.unusedSimpArgs false

/-! ### impl_OrdTower: function 38 -/
mutual
def impl_OrdTower.j0 : Nat → Int → Bool → Option (List Int × Bool)
 | 0,_,_ => none
 | k + 1,x0,x10 => if x10 = true then (some (([] : List Int),false)) else ((impl_number.f 1).bind fun t812 => (impl_OrdTower.l0 k t812 x0 0))
def impl_OrdTower.l0 : Nat → List (S56) → Int → Int → Option (List Int × Bool)
 | 0,_,_,_ => none
 | k + 1,x4,x12,x13 => if x13 < x12 then ((impl_power.f x4).bind fun t815 => (impl_OrdTower.l0 k t815 x12 (wrap64 (x13 + 1)))) else ((impl_told.f k x4).bind fun bt818 => (some (bt818.1,bt818.2)))
end
def impl_OrdTower.f (k : Nat) (a0 : Int) : Option (List Int × Bool) := if a0 < 0 then (impl_OrdTower.j0 k a0 true) else (impl_OrdTower.j0 k a0 (decide (a0 > 9)))
theorem impl_OrdTower.mono_l : ∀ k,(∀ y0 y1,LeO (impl_OrdTower.j0 k y0 y1) (impl_OrdTower.j0 (k + 1) y0 y1)) ∧ (∀ y0 y1 y2,LeO (impl_OrdTower.l0 k y0 y1 y2) (impl_OrdTower.l0 (k + 1) y0 y1 y2))
 | 0 => ⟨fun _ _ r h => by simp [impl_OrdTower.j0] at h,fun _ _ _ r h => by simp [impl_OrdTower.l0] at h⟩
 | k + 1 => by
  obtain ⟨ih0,ih1⟩ := impl_OrdTower.mono_l k
  refine ⟨?_,?_⟩
  ·intro y0 y1
   unfold impl_OrdTower.j0
   repeat' first|(with_reducible first|exact ih0 _ _|exact ih1 _ _ _|exact LeO.refl _|exact LeO.none _|refine LeO.ite ?_ ?_|refine LeO.bind ?_ (fun _ => ?_))|exact ih0 _ _|exact ih1 _ _ _|exact LeO.none _|refine LeO.ite ?_ ?_|refine LeO.bind ?_ (fun _ => ?_)
  ·intro y0 y1 y2
   unfold impl_OrdTower.l0
   repeat' first|(with_reducible first|exact ih1 _ _ _|exact impl_told.mono _ _|exact LeO.refl _|exact LeO.none _|refine LeO.ite ?_ ?_|refine LeO.bind ?_ (fun _ => ?_))|exact ih1 _ _ _|exact impl_told.mono _ _|exact LeO.none _|refine LeO.ite ?_ ?_|refine LeO.bind ?_ (fun _ => ?_)
theorem impl_OrdTower.mono : ∀ a0 k,LeO (impl_OrdTower.f k a0) (impl_OrdTower.f (k + 1) a0) := by
 intro a0 k
 obtain ⟨ih0,ih1⟩ := impl_OrdTower.mono_l k
 unfold impl_OrdTower.f
 repeat' first|(with_reducible first|exact ih0 _ _|exact ih1 _ _ _|exact LeO.refl _|exact LeO.none _|refine LeO.ite ?_ ?_|refine LeO.bind ?_ (fun _ => ?_))|exact ih0 _ _|exact ih1 _ _ _|exact LeO.none _|refine LeO.ite ?_ ?_|refine LeO.bind ?_ (fun _ => ?_)
set_option maxHeartbeats 8000000 in
set_option maxRecDepth 100000 in
theorem impl_OrdTower.calls (k : Nat) (a0 : Int) (r1 : List Int) (r2 : Bool) (w : World) (h : impl_OrdTower.f k a0 = some (r1,r2)) :
  Calls Try.prog 38 #[.int .i64 a0] w fun e w' => ∃ v0_ : Value,e = .returned (.tuple #[v0_,.bool r2]) ∧ Kd.R (Kd.int .i64) 3 w' w.heap.size (fun _ => True) v0_ r1 ∧ Below w.heap.size w w' := by
 have HB := Aside0.mk (Below.refl w.heap.size w)
 have H : (if a0 < 0 then (impl_OrdTower.j0 k a0 true) else (impl_OrdTower.j0 k a0 (decide (a0 > 9)))) = some (r1,r2) := h
 clear h
 have HC2 := Aside0.mk H
 clear H
 go_enter Try.func38,Try.ntmps38
 go_upto_region 1 with (fail)
 go_cut [10] (fun v10 wc => ∃ (kq : Nat) (x10_1 : Bool),v10 = .bool x10_1 ∧ Aside0 (impl_OrdTower.j0 kq a0 x10_1 = some (r1,r2)) ∧ Aside0 (kq ≤ k) ∧ Aside0 (Below w.heap.size w wc))
 case first =>
  have H := HC2.out
  clear HC2
  by_cases c3 : a0 < 0
  ·rw [if_pos c3] at H
   have c3b0 : decide (a0 < 0) = true := decide_eq_true c3
   clear c3
   (first|rw [c3b0]|(simp only [i64_w,i32_w];rw [c3b0])|skip)
   have H' := Aside0.mk H
   clear H
   go_wp2
   go_meet
   case rel => exact ⟨_,(true),(by first|rfl|(simp;done)|(simp [*];done)),H',⟨by first|omega|exact Nat.le_refl _⟩,⟨bz⟩⟩
  ·rw [if_neg c3] at H
   have c3b0 : decide (a0 < 0) = false := decide_eq_false c3
   clear c3
   (first|rw [c3b0]|(simp only [i64_w,i32_w];rw [c3b0])|skip)
   have H' := Aside0.mk H
   clear H
   go_wp2
   go_meet
   case rel => exact ⟨_,(decide (a0 > 9)),(by first|rfl|(simp;done)|(simp [*];done)),H',⟨by first|omega|exact Nat.le_refl _⟩,⟨bz⟩⟩
 case rest =>
  clear HC2
  try clear p2
  try clear c3
  try clear c3b0
  obtain ⟨kq,x10_1,rfl,HA,HJ1,HB⟩ := hcut
  cases kq with
  | zero => exact absurd HA.out (by simp [impl_OrdTower.j0])
  | succ kj1 =>
   have H := HA.out
   clear HA
   simp only [impl_OrdTower.j0] at H
   by_cases c4 : x10_1 = true
   ·subst c4
    have H1 : (some (([] : List Int),false)) = some (r1,r2) := by rw [if_pos rfl] at H;exact H
    clear H
    have H := H1
    clear H1
    simp only [Option.some.injEq,Prod.mk.injEq] at H
    obtain ⟨rfl,rfl⟩ := H
    go_wp2
    go_ret2
    exact ⟨_,by first|rfl|(simp [errW_none,errW_some] <;> rfl)|(simp [*,errW_none,errW_some] <;> rfl),by first|exact Kd.R_nil _ _ _ _ _|exact Kd.N_nil _ _ _ _ _|exact Kd.V_nil _ _ _ _ _|exact Kd.Q_nil _ _ _ _ _|exact Kd.S_nil _ _ _ _ _,bz⟩
   ·replace c4 := Bool.eq_false_iff.mpr c4
    subst c4
    have H1 : ((impl_number.f 1).bind fun t812 => (impl_OrdTower.l0 kj1 t812 a0 0)) = some (r1,r2) := by rw [if_neg (show ¬ (false = true) by decide)] at H;exact H
    clear H
    have H := H1
    clear H1
    replace H := Option.bind_eq_some_iff.mp H
    obtain ⟨t812,A50,H⟩ := H
    replace H : (impl_OrdTower.l0 kj1 t812 a0 0) = some (r1,r2) := H
    have A5 := Aside0.mk A50
    clear A50
    have H' := Aside0.mk H
    clear H
    go_wp2_with (first|((with_reducible refine gate_callee (f := 58) rfl ?_);refine goesL_ (some 11) rfl rfl Try.func58 (by kernel_rfl) rfl #[.int .i64 1] rfl az ?_;(with_reducible refine (impl_number.calls 1 t812 _ A5.out).mono ?_);rintro e w6 ⟨v813,rfl,ho0,hb⟩;refine ⟨_,rfl,?_⟩;have n0_ := Aside0.mk (Kd.N_lower (Kd.N_mono (ok' := fun k_ => True) (Kd.R_N (Kd.R_bound ho0)) (fun k_ hk_ => trivial)) (below_size bz));have n1_ := Aside0.mk (below_step bz hb);clear HB;have HO814 := n0_;have HB := n1_;clear n0_ n1_;(try clear hb);(try clear hb2);(try clear hk);(try clear hi);(try clear ho0)))
    go_loopg [4,13] kj1 (fun kq v4 v13 w' => ∃ (x4_2 : List (S56)) (x13_2 : Int),v13 = .int .i64 x13_2 ∧ Aside0 (impl_OrdTower.l0 kq x4_2 a0 x13_2 = some (r1,r2)) ∧ Aside0 (kq ≤ kj1) ∧ Aside0 (Kd.N k56 56 w' w.heap.size (fun _ => True) v4 x4_2) ∧ Aside0 (Below w.heap.size w w'))
    case atStart => exact ⟨(t812),(0),(by first|rfl|(simp;done)|(simp [*];done)),H',⟨Nat.le_refl _⟩,⟨by (with_reducible repeat (first|apply Kd.N_alloc|apply Kd.N_drewN|apply Kd.N_drew));exact HO814.out⟩,⟨bz⟩⟩
    case round =>
     clear H'
     try clear p2
     try clear c3
     try clear c3b0
     try clear c4
     try clear c5
     try clear p2
     obtain ⟨x4_2,x13_2,rfl,HA,HK2,HO_4,HB⟩ := hrel
     cases gk with
     | zero => exact absurd HA.out (by simp [impl_OrdTower.l0])
     | succ k2 =>
      have H := HA.out
      clear HA
      simp only [impl_OrdTower.l0] at H
      by_cases c7 : x13_2 < a0
      ·rw [if_pos c7] at H
       have c7b0 : decide (x13_2 < a0) = true := decide_eq_true c7
       clear c7
       replace H := Option.bind_eq_some_iff.mp H
       obtain ⟨t815,A80,H⟩ := H
       replace H : (impl_OrdTower.l0 k2 t815 a0 (wrap64 (x13_2 + 1))) = some (r1,r2) := H
       have A8 := Aside0.mk A80
       clear A80
       have H' := Aside0.mk H
       clear H
       obtain ⟨Ao9,co9,eo9⟩ := Kd.N_slice HO_4.out
       subst eo9
       go_wp2_with (first|((with_reducible refine gate_callee (f := 72) rfl ?_);refine goesL_ (some 16) rfl rfl Try.func72 (by kernel_rfl) rfl #[.slice Ao9 x4_2.length co9] rfl az ?_;(with_reducible refine (impl_power.calls (fun k_ => True) _ _ x4_2 t815 _ ?side1 A8.out).mono ?_);(case side1 => exact Kd.N_V (HO_4.out));rintro e w10 ⟨v816,rfl,ho0,hb⟩;refine ⟨_,rfl,?_⟩;have n0_ := Aside0.mk (Kd.N_elder' (Kd.Nz HO_4.out) (Kd.N_base ho0) hb);have n1_ := Aside0.mk (Kd.N_lower (Kd.N_mono (ok' := fun k_ => True) ho0 (fun k_ hk_ => trivial)) (below_size bz));have n2_ := Aside0.mk (below_step bz hb);clear HO_4;clear HB;have HO_4 := n0_;have HO817 := n1_;have HB := n2_;clear n0_ n1_ n2_;(try clear hb);(try clear hb2);(try clear hk);(try clear hi);(try clear ho0)))
       go_roundg k2
       case measure => have := HJ1.out;have := HK2.out;omega
       case rel => exact ⟨(t815),(wrap64 (x13_2 + 1)),(by first|rfl|(simp;done)|(simp [*];done)),H',⟨by have := HJ1.out;have := HK2.out;omega⟩,⟨by (with_reducible repeat (first|apply Kd.N_alloc|apply Kd.N_drewN|apply Kd.N_drew));exact HO817.out⟩,⟨bz⟩⟩
      ·rw [if_neg c7] at H
       have c7b0 : decide (x13_2 < a0) = false := decide_eq_false c7
       clear c7
       replace H := Option.bind_eq_some_iff.mp H
       obtain ⟨⟨t818,t819⟩,A110,H⟩ := H
       replace H : (some (t818,t819)) = some (r1,r2) := H
       have A11 := Aside0.mk A110
       clear A110
       simp only [Option.some.injEq,Prod.mk.injEq] at H
       obtain ⟨rfl,rfl⟩ := H
       obtain ⟨Ao12,co12,eo12⟩ := Kd.N_slice HO_4.out
       subst eo12
       go_wp2_with (first|((with_reducible refine gate_callee (f := 61) rfl ?_);refine goesL_ (some 19) rfl rfl Try.func61 (by kernel_rfl) rfl #[.slice Ao12 x4_2.length co12] rfl az ?_;(with_reducible refine (impl_told.calls k2 _ _ x4_2 t818 t819 _ ?side1 ?side2 A11.out).mono ?_);(case side1 => exact Kd.Cz (Kd.N_reads' HO_4.out).2.2);(case side2 => exact (Kd.N_reads' HO_4.out).2.1);rintro e w13 ⟨v820,rfl,ho0,hb⟩;refine ⟨_,rfl,?_⟩;have n0_ := Aside0.mk (Kd.N_elder' (Kd.Nz HO_4.out) (Kd.R_base ho0) hb);have n1_ := Aside0.mk (Kd.R_lower ho0 (below_size bz));have n2_ := Aside0.mk (below_step bz hb);clear HO_4;clear HB;have HO_4 := n0_;have HO821 := n1_;have HB := n2_;clear n0_ n1_ n2_;(try clear hb);(try clear hb2);(try clear hk);(try clear hi);(try clear ho0)))
       go_ret2
       exact ⟨_,by first|rfl|(simp [errW_none,errW_some] <;> rfl)|(simp [*,errW_none,errW_some] <;> rfl),by (with_reducible repeat (first|apply Kd.R_alloc|apply Kd.R_drewN|apply Kd.R_drew));exact HO821.out,bz⟩

end Go.Proofs.Ytninfokihgbgpaa.P
