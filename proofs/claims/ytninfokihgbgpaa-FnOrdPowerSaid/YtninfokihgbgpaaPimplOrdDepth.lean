/- The walk of one Go function that the law reaches: it comes to what the Lean function of its name tells. -/
import Derived.Test.YtninfokihgbgpaaP0
import Derived.Test.YtninfokihgbgpaaPimplordOf
namespace Go.Proofs.Ytninfokihgbgpaa.P
open Go.RowKit Go.Proofs.YtninfokihgbgpaaW.PrintWords Go.Proofs.YtninfokihgbgpaaW.PrintLast Go.Proofs.YtninfokihgbgpaaW.PrintMore
attribute [local go_sem] max2_int min2_int max_two min_two max_three min_three max_four min_four   
set_option linter.unusedVariables false
set_option linter.unusedSimpArgs false

/-! ### impl_OrdDepth: function 26 -/
def impl_OrdDepth.l0 : Nat → List (S56) → Int → Option (Int)
 | 0,_,_ => none
 | k + 1,x3,x5 => if (x3.length : Int) > 0 then (if 0 < (x3.length : Int) then (impl_OrdDepth.l0 k ((rd_T56 x3 0).f1) (wrap64 (x5 + 1))) else (none)) else (some x5)
def impl_OrdDepth.f (k : Nat) (l0 : List Int) : Option (Int) := (impl_ordOf.f k l0).bind fun bt529 => (if bt529.2 = true then (impl_OrdDepth.l0 k bt529.1 0) else (some (-1)))
theorem impl_OrdDepth.mono_l : ∀ k,(∀ y0 y1,LeO (impl_OrdDepth.l0 k y0 y1) (impl_OrdDepth.l0 (k + 1) y0 y1))
 | 0 => fun _ _ r h => by simp [impl_OrdDepth.l0] at h
 | k + 1 => by
  have ih0 := impl_OrdDepth.mono_l k
  ·intro y0 y1
   unfold impl_OrdDepth.l0
   repeat' first|(with_reducible first|exact ih0 _ _|exact LeO.refl _|exact LeO.none _|refine LeO.ite ?_ ?_|refine LeO.bind ?_ (fun _ => ?_))|exact ih0 _ _|exact LeO.none _|refine LeO.ite ?_ ?_|refine LeO.bind ?_ (fun _ => ?_)
theorem impl_OrdDepth.mono : ∀ a0 k,LeO (impl_OrdDepth.f k a0) (impl_OrdDepth.f (k + 1) a0) := by
 intro a0 k
 have ih0 := impl_OrdDepth.mono_l k
 unfold impl_OrdDepth.f
 repeat' first|(with_reducible first|exact ih0 _ _|exact impl_ordOf.mono _ _|exact LeO.refl _|exact LeO.none _|refine LeO.ite ?_ ?_|refine LeO.bind ?_ (fun _ => ?_))|exact ih0 _ _|exact impl_ordOf.mono _ _|exact LeO.none _|refine LeO.ite ?_ ?_|refine LeO.bind ?_ (fun _ => ?_)
set_option maxHeartbeats 8000000 in
set_option maxRecDepth 100000 in
theorem impl_OrdDepth.calls (k : Nat) (A0 : Option Addr) (c0 : Nat) (l0 : List Int) (r : Int) (w : World) (hr0 : Kd.C (Kd.int .i64) w A0 l0.length l0) (hc0 : l0.length ≤ c0) (h : impl_OrdDepth.f k l0 = some r) :
  Calls Try.prog 26 #[.slice A0 l0.length c0] w fun e w' => e = .returned (.int .i64 r) ∧ Below w.heap.size w w' := by
 have HR0 := Aside0.mk hr0
 have HC0 := Aside0.mk hc0
 clear hr0 hc0
 have HB := Aside0.mk (Below.refl w.heap.size w)
 have H : ((impl_ordOf.f k l0).bind fun bt529 => (if bt529.2 = true then (impl_OrdDepth.l0 k bt529.1 0) else (some (-1)))) = some r := h
 clear h
 replace H := Option.bind_eq_some_iff.mp H
 obtain ⟨⟨t529,t530⟩,A20,H⟩ := H
 replace H : (if t530 = true then (impl_OrdDepth.l0 k t529 0) else (some (-1))) = some r := H
 have A2 := Aside0.mk A20
 clear A20
 by_cases c3 : t530 = true
 ·subst c3
  have H1 : (impl_OrdDepth.l0 k t529 0) = some r := by rw [if_pos rfl] at H;exact H
  clear H
  have H := H1
  clear H1
  have H' := Aside0.mk H
  clear H
  go_enter Try.func26,Try.ntmps26
  go_wp2_with (first|((with_reducible refine gate_callee (f := 60) rfl ?_);refine goesL_ (some 8) rfl rfl Try.func60 (by kernel_rfl) rfl #[.slice A0 l0.length c0] rfl az ?_;(with_reducible refine (impl_ordOf.calls k _ _ l0 t529 true _ ?side1 ?side2 A2.out).mono ?_);(case side1 => exact Kd.Cz HR0.out);(case side2 => exact HC0.out);rintro e w4 ⟨v531,rfl,ho0,hb⟩;refine ⟨_,rfl,?_⟩;have n0_ := Aside0.mk (Kd.R_lower ho0 (below_size bz));have n1_ := Aside0.mk (below_step bz hb);clear HB;have HO532 := n0_;have HB := n1_;clear n0_ n1_;(try clear hb);(try clear hb2);(try clear hk);(try clear hi);(try clear ho0)))
  go_loopg [3,5] k (fun kq v3 v5 w' => ∃ (x3_1 : List (S56)) (x5_1 : Int),v5 = .int .i64 x5_1 ∧ Aside0 (impl_OrdDepth.l0 kq x3_1 x5_1 = some r) ∧ Aside0 (kq ≤ k) ∧ Aside0 (Kd.R k56 56 w' w.heap.size (fun _ => True) v3 x3_1) ∧ Aside0 (Below w.heap.size w w'))
  case atStart => exact ⟨(t529),(0),(by first|rfl|(simp;done)|(simp [*];done)),H',⟨Nat.le_refl _⟩,⟨by (with_reducible repeat (first|apply Kd.R_alloc|apply Kd.R_drewN|apply Kd.R_drew));exact HO532.out⟩,⟨bz⟩⟩
  case round =>
   clear H'
   try clear c2
   try clear p2
   try clear c3
   obtain ⟨x3_1,x5_1,rfl,HA,HK1,HO_3,HB⟩ := hrel
   cases gk with
   | zero => exact absurd HA.out (by simp [impl_OrdDepth.l0])
   | succ k1 =>
    have H := HA.out
    clear HA
    simp only [impl_OrdDepth.l0] at H
    by_cases c5 : (x3_1.length : Int) > 0
    ·rw [if_pos c5] at H
     have c5b0 : decide (0 < (x3_1.length : Int)) = true := decide_eq_true c5
     have c5b1 : decide (0 < x3_1.length) = true := decide_eq_true (by omega)
     clear c5
     by_cases c6 : 0 < (x3_1.length : Int)
     ·rw [if_pos c6] at H
      have c6b0 : decide (0 < (x3_1.length : Int)) = true := decide_eq_true c6
      have c6b1 : decide (0 < x3_1.length) = true := decide_eq_true (by omega)
      clear c6
      have H' := Aside0.mk H
      clear H
      obtain ⟨Ao7,co7,eo7⟩ := Kd.R_slice HO_3.out
      subst eo7
      have p533 : 0 ≤ (0 : Int) := (by omega)
      have q533 : 0 < (x3_1.length : Int) := dz
      obtain ⟨ad533,A533_1,c533_1,e533,hx533_0,hx533_1,hl533_1,hi533_1⟩ := at_T56 (Kd.R_reads' HO_3.out).2.2 0 p533 q533
      cases e533
      obtain ⟨ce533,hce533,hMe533,hcc533⟩ := Kd.R_get HO_3.out z56 0 p533 (by first|exact q533|exact dz|(have e_ := (Kd.R_reads' HO_3.out).1;omega))
      obtain ⟨ve533_1,rfl,ge533_1⟩ := k56_openM hMe533
      have hv533_1 := hcc533 1 _ rfl
      rw [add_field _ _ 1 (by omega)] at hv533_1
      replace hv533_1 := Option.some.inj (hv533_1.symm.trans hx533_1)
      rw [hv533_1] at ge533_1
      have HL533_1 := Aside0.mk (show Kd.R k56 56 _ _ _ _ ((rd_T56 x3_1 0).f1) from ge533_1)
      clear hv533_1 ge533_1
      clear hcc533 hce533
      have qi533 : (0 < x3_1.length) = True := eq_true (by omega)
      (try rw [show ((0 : Int)).toNat = 0 from rfl] at hx533_0)
      (try rw [show 0 * 2 = 0 from rfl] at hx533_0)
      (try rw [Addr.add_zero'] at hx533_0)
      (try rw [show ((0 : Int)).toNat = 0 from rfl] at hx533_1)
      (try rw [show 0 * 2 = 0 from rfl] at hx533_1)
      (try rw [Addr.add_zero'] at hx533_1)
      have HR533_1 := Aside0.mk hi533_1
      have HC533_1 := Aside0.mk hl533_1
      clear hi533_1 hl533_1
      replace p533 := eq_true p533
      replace q533 := eq_true q533
      go_wp2
      go_roundg k1
      case measure => have := HK1.out;omega
      case rel => exact ⟨((rd_T56 x3_1 0).f1),(wrap64 (x5_1 + 1)),(by first|rfl|(simp;done)|(simp [*];done)),H',⟨by have := HK1.out;omega⟩,⟨by (with_reducible repeat (first|apply Kd.R_alloc|apply Kd.R_drewN|apply Kd.R_drew));exact Kd.R_mono HL533_1.out (fun _ hk => trivial)⟩,⟨bz⟩⟩
     ·rw [if_neg c6] at H
      exact absurd H (by simp)
    ·rw [if_neg c5] at H
     have c5b0 : decide (0 < (x3_1.length : Int)) = false := decide_eq_false c5
     have c5b1 : decide (0 < x3_1.length) = false := decide_eq_false (by omega)
     clear c5
     obtain rfl := Option.some.inj H
     obtain ⟨Ao8,co8,eo8⟩ := Kd.R_slice HO_3.out
     subst eo8
     go_wp2
     go_ret
     exact ⟨by first|rfl|(simp [errW_none,errW_some] <;> rfl)|(simp [*,errW_none,errW_some] <;> rfl),bz⟩
 ·replace c3 := Bool.eq_false_iff.mpr c3
  subst c3
  have H1 : (some (-1)) = some r := by rw [if_neg (show ¬ (false = true) by decide)] at H;exact H
  clear H
  have H := H1
  clear H1
  obtain rfl := Option.some.inj H
  go_enter Try.func26,Try.ntmps26
  go_wp2_with (first|((with_reducible refine gate_callee (f := 60) rfl ?_);refine goesL_ (some 8) rfl rfl Try.func60 (by kernel_rfl) rfl #[.slice A0 l0.length c0] rfl az ?_;(with_reducible refine (impl_ordOf.calls k _ _ l0 t529 false _ ?side1 ?side2 A2.out).mono ?_);(case side1 => exact Kd.Cz HR0.out);(case side2 => exact HC0.out);rintro e w9 ⟨v531,rfl,ho0,hb⟩;refine ⟨_,rfl,?_⟩;have n0_ := Aside0.mk (Kd.R_lower ho0 (below_size bz));have n1_ := Aside0.mk (below_step bz hb);clear HB;have HO532 := n0_;have HB := n1_;clear n0_ n1_;(try clear hb);(try clear hb2);(try clear hk);(try clear hi);(try clear ho0)))
  go_ret
  exact ⟨by first|rfl|(simp [errW_none,errW_some] <;> rfl)|(simp [*,errW_none,errW_some] <;> rfl),bz⟩

end Go.Proofs.Ytninfokihgbgpaa.P
