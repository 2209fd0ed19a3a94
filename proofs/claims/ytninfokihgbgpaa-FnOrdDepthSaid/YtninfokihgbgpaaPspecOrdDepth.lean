/- The walk of one Go function that the law reaches: it comes to what the Lean function of its name tells. -/
import Derived.Test.YtninfokihgbgpaaP0
import Derived.Test.YtninfokihgbgpaaPspecOrdValid
import Derived.Test.YtninfokihgbgpaaPspecl1Terms
namespace Go.Proofs.Ytninfokihgbgpaa.P
open Go.RowKit Go.Proofs.YtninfokihgbgpaaW.PrintWords Go.Proofs.YtninfokihgbgpaaW.PrintLast Go.Proofs.YtninfokihgbgpaaW.PrintMore
attribute [local go_sem] max2_int min2_int max_two min_two max_three min_three max_four min_four   
set_option linter.unusedVariables false
set_option linter.unusedSimpArgs false

/-! ### spec_OrdDepth: function 27 -/
def spec_OrdDepth.l0 : Nat → List Int → Int → Option (Int)
 | 0,_,_ => none
 | k + 1,x0,x3 => if (x0.length : Int) > 1 then ((spec_l1Terms.f k x0).bind fun bt535 => (if 0 < (bt535.2.length : Int) then (spec_OrdDepth.l0 k (rd_L3 bt535.2 0) (wrap64 (x3 + 1))) else (none))) else (some x3)
def spec_OrdDepth.f (k : Nat) (l0 : List Int) : Option (Int) := (spec_OrdValid.f k l0).bind fun t534 => (if t534 = true then (spec_OrdDepth.l0 k l0 0) else (some (-1)))
theorem spec_OrdDepth.mono_l : ∀ k,(∀ y0 y1,LeO (spec_OrdDepth.l0 k y0 y1) (spec_OrdDepth.l0 (k + 1) y0 y1))
 | 0 => fun _ _ r h => by simp [spec_OrdDepth.l0] at h
 | k + 1 => by
  have ih0 := spec_OrdDepth.mono_l k
  ·intro y0 y1
   unfold spec_OrdDepth.l0
   repeat' first|(with_reducible first|exact ih0 _ _|exact spec_l1Terms.mono _ _|exact LeO.refl _|exact LeO.none _|refine LeO.ite ?_ ?_|refine LeO.bind ?_ (fun _ => ?_))|exact ih0 _ _|exact spec_l1Terms.mono _ _|exact LeO.none _|refine LeO.ite ?_ ?_|refine LeO.bind ?_ (fun _ => ?_)
theorem spec_OrdDepth.mono : ∀ a0 k,LeO (spec_OrdDepth.f k a0) (spec_OrdDepth.f (k + 1) a0) := by
 intro a0 k
 have ih0 := spec_OrdDepth.mono_l k
 unfold spec_OrdDepth.f
 repeat' first|(with_reducible first|exact ih0 _ _|exact spec_OrdValid.mono _ _|exact LeO.refl _|exact LeO.none _|refine LeO.ite ?_ ?_|refine LeO.bind ?_ (fun _ => ?_))|exact ih0 _ _|exact spec_OrdValid.mono _ _|exact LeO.none _|refine LeO.ite ?_ ?_|refine LeO.bind ?_ (fun _ => ?_)
set_option maxHeartbeats 8000000 in
set_option maxRecDepth 100000 in
theorem spec_OrdDepth.calls (k : Nat) (P0_ : Nat → Prop) (A0 : Option Addr) (c0 : Nat) (l0 : List Int) (r : Int) (w : World) (hs0 : Kd.V (Kd.int .i64) 3 w w.heap.size (fun k_ => P0_ k_) (.slice A0 l0.length c0) l0) (h : spec_OrdDepth.f k l0 = some r) :
  Calls Try.prog 27 #[.slice A0 l0.length c0] w fun e w' => e = .returned (.int .i64 r) ∧ Below w.heap.size w w' := by
 have HO0 := Aside0.mk (show Kd.V (Kd.int .i64) 3 w w.heap.size (fun k_ => (P0_ k_ ∨ w.heap.size ≤ k_)) (.slice A0 l0.length c0) l0 from Kd.V_mono hs0 (fun k_ hk => .inl hk))
 have HB := Aside0.mk (Below.refl w.heap.size w)
 have H : ((spec_OrdValid.f k l0).bind fun t534 => (if t534 = true then (spec_OrdDepth.l0 k l0 0) else (some (-1)))) = some r := h
 clear h
 replace H := Option.bind_eq_some_iff.mp H
 obtain ⟨t534,A20,H⟩ := H
 replace H : (if t534 = true then (spec_OrdDepth.l0 k l0 0) else (some (-1))) = some r := H
 have A2 := Aside0.mk A20
 clear A20
 by_cases c3 : t534 = true
 ·subst c3
  have H1 : (spec_OrdDepth.l0 k l0 0) = some r := by rw [if_pos rfl] at H;exact H
  clear H
  have H := H1
  clear H1
  have H' := Aside0.mk H
  clear H
  go_enter Try.func27,Try.ntmps27
  go_wp2_with (first|((with_reducible refine gate_callee (f := 24) rfl ?_);refine goesL_ (some 7) rfl rfl Try.func24 (by kernel_rfl) rfl #[.slice A0 l0.length c0] rfl az ?_;(with_reducible refine (spec_OrdValid.calls k _ _ l0 true _ ?side1 ?side2 A2.out).mono ?_);(case side1 => exact Kd.Cz (Kd.V_reads' HO0.out).2.2);(case side2 => exact (Kd.V_reads' HO0.out).2.1);rintro e w4 ⟨rfl,hb⟩;refine ⟨_,rfl,?_⟩;have n0_ := Aside0.mk (Kd.V_below (Kd.Vz HO0.out) hb);have n1_ := Aside0.mk (below_step bz hb);clear HO0;clear HB;have HO0 := n0_;have HB := n1_;clear n0_ n1_;(try clear hb);(try clear hb2);(try clear hk);(try clear hi)))
  go_loopg [0,3] k (fun kq v0 v3 w' => ∃ (x0_1 : List Int) (x3_1 : Int),v3 = .int .i64 x3_1 ∧ Aside0 (spec_OrdDepth.l0 kq x0_1 x3_1 = some r) ∧ Aside0 (kq ≤ k) ∧ Aside0 (Kd.V (Kd.int .i64) 3 w' w.heap.size (fun k_ => (P0_ k_ ∨ w.heap.size ≤ k_)) v0 x0_1) ∧ Aside0 (Below w.heap.size w w'))
  case atStart => exact ⟨(l0),(0),(by first|rfl|(simp;done)|(simp [*];done)),H',⟨Nat.le_refl _⟩,⟨by (with_reducible repeat (first|apply Kd.V_alloc|apply Kd.V_drewN|apply Kd.V_drew));exact HO0.out⟩,⟨bz⟩⟩
  case round =>
   clear H'
   try clear c2
   try clear p2
   try clear c3
   obtain ⟨x0_1,x3_1,rfl,HA,HK1,HO_0,HB⟩ := hrel
   cases gk with
   | zero => exact absurd HA.out (by simp [spec_OrdDepth.l0])
   | succ k1 =>
    have H := HA.out
    clear HA
    simp only [spec_OrdDepth.l0] at H
    by_cases c5 : (x0_1.length : Int) > 1
    ·rw [if_pos c5] at H
     have c5b0 : decide (1 < (x0_1.length : Int)) = true := decide_eq_true c5
     have c5b1 : decide (1 < x0_1.length) = true := decide_eq_true (by omega)
     clear c5
     replace H := Option.bind_eq_some_iff.mp H
     obtain ⟨⟨t535,t538⟩,A60,H⟩ := H
     replace H : (if 0 < (t538.length : Int) then (spec_OrdDepth.l0 k1 (rd_L3 t538 0) (wrap64 (x3_1 + 1))) else (none)) = some r := H
     have A6 := Aside0.mk A60
     clear A60
     by_cases c7 : 0 < (t538.length : Int)
     ·rw [if_pos c7] at H
      have c7b0 : decide (0 < (t538.length : Int)) = true := decide_eq_true c7
      have c7b1 : decide (0 < t538.length) = true := decide_eq_true (by omega)
      clear c7
      have H' := Aside0.mk H
      clear H
      obtain ⟨Ao8,co8,eo8⟩ := Kd.V_slice HO_0.out
      subst eo8
      go_wp2_with (first|((with_reducible refine gate_callee (f := 65) rfl ?_);refine goesL_ (some 14) rfl rfl Try.func65 (by kernel_rfl) rfl #[.slice Ao8 x0_1.length co8] rfl az ?_;(with_reducible refine (spec_l1Terms.calls k1 (fun k_ => (P0_ k_ ∨ w.heap.size ≤ k_)) _ _ x0_1 t535 t538 _ ?side1 A6.out).mono ?_);(case side1 => exact HO_0.out);rintro e w9 ⟨v536,v539,rfl,ho0,ho1,hb⟩;refine ⟨_,rfl,?_⟩;have n0_ := Aside0.mk (Kd.V_mono (Kd.V_told (Kd.V_told (Kd.V_old (Kd.Vz HO_0.out) hb) (Kd.R_base ho0)) (Kd.N_base ho1)) (fun _ h_ => h_.1));have n1_ := Aside0.mk (Kd.R_lower (Kd.R_newM (M := fun k_ => (w.heap.size ≤ k_)) (Kd.R_mono (ok' := fun k_ => True) ho0 (fun _ hk_ => trivial)) (below_size bz) (fun k_ h_ => h_)) (below_size bz));have n2_ := Aside0.mk (Kd.N_lower (Kd.N_mono (ok' := fun k_ => (P0_ k_ ∨ w.heap.size ≤ k_) ∧ some k_ ≠ (v536 : Value).ownBlock) ho1 (fun k_ hk_ => ⟨Or.elim hk_.1 (fun hs_ => hs_) (fun hn_ => (.inr (Nat.le_trans (below_size bz) hn_))),hk_.2⟩)) (below_size bz));have n3_ := Aside0.mk (below_step bz hb);clear HO_0;clear HB;have HO_0 := n0_;have HO537 := n1_;have HO540 := n2_;have HB := n3_;clear n0_ n1_ n2_ n3_;(try clear hb);(try clear hb2);(try clear hk);(try clear hi);(try clear ho0);(try clear ho1);obtain ⟨Ao10,co10,eo10⟩ := Kd.N_slice HO540.out;subst eo10;have p541 : 0 ≤ (0 : Int) := (by omega);have q541 : 0 < (t538.length : Int) := dz;obtain ⟨ad541,A541_0,c541_0,e541,hx541_0,hl541_0,hi541_0⟩ := at_L3 (Kd.N_reads' HO540.out).2.2 0 p541 q541;cases e541;obtain ⟨ce541,hce541,hMe541,hcc541⟩ := Kd.N_get HO540.out [] 0 p541 (by first|exact q541|exact dz|(have e_ := (Kd.N_reads' HO540.out).1;omega));obtain ⟨ua541_0,uc541_0,rfl,ul541_0,ge541_0⟩ := Kd.FK_slice_open hMe541;have hv541_0 := hcc541 0 _ rfl;rw [Nat.add_zero,show ((Kd.slice 3 (Kd.int .i64))).sz = 1 from rfl,Nat.mul_one] at hv541_0;replace hv541_0 := Option.some.inj (hv541_0.symm.trans hx541_0);injection hv541_0 with hva_ hvn_ hvc_;rw [hva_] at ge541_0;rw [hvc_] at ul541_0;have HL541_0 := Aside0.mk (show Kd.V (Kd.int .i64) 3 _ w.heap.size _ _ (rd_L3 t538 0) from Kd.V_mk ul541_0 ge541_0);clear hva_ hvn_ hvc_ ge541_0 ul541_0;clear hcc541 hce541;have qi541 : (0 < t538.length) = True := eq_true (by omega);(try rw [show ((0 : Int)).toNat = 0 from rfl] at hx541_0);(try rw [Addr.add_zero'] at hx541_0);have HR541_0 := Aside0.mk hi541_0;have HC541_0 := Aside0.mk hl541_0;clear hi541_0 hl541_0;replace p541 := eq_true p541;replace q541 := eq_true q541))
      go_roundg k1
      case measure => have := HK1.out;omega
      case rel => exact ⟨(rd_L3 t538 0),(wrap64 (x3_1 + 1)),(by first|rfl|(simp;done)|(simp [*];done)),H',⟨by have := HK1.out;omega⟩,⟨by (with_reducible repeat (first|apply Kd.V_alloc|apply Kd.V_drewN|apply Kd.V_drew));exact Kd.V_mono HL541_0.out (fun _ hk => hk.1.1)⟩,⟨bz⟩⟩
     ·rw [if_neg c7] at H
      exact absurd H (by simp)
    ·rw [if_neg c5] at H
     have c5b0 : decide (1 < (x0_1.length : Int)) = false := decide_eq_false c5
     have c5b1 : decide (1 < x0_1.length) = false := decide_eq_false (by omega)
     clear c5
     obtain rfl := Option.some.inj H
     obtain ⟨Ao11,co11,eo11⟩ := Kd.V_slice HO_0.out
     subst eo11
     go_wp2
     go_ret
     exact ⟨by first|rfl|(simp [errW_none,errW_some] <;> rfl)|(simp [*,errW_none,errW_some] <;> rfl),bz⟩
 ·replace c3 := Bool.eq_false_iff.mpr c3
  subst c3
  have H1 : (some (-1)) = some r := by rw [if_neg (show ¬ (false = true) by decide)] at H;exact H
  clear H
  have H := H1
  clear H1
  obtain rfl := Option.some.inj H
  go_enter Try.func27,Try.ntmps27
  go_wp2_with (first|((with_reducible refine gate_callee (f := 24) rfl ?_);refine goesL_ (some 7) rfl rfl Try.func24 (by kernel_rfl) rfl #[.slice A0 l0.length c0] rfl az ?_;(with_reducible refine (spec_OrdValid.calls k _ _ l0 false _ ?side1 ?side2 A2.out).mono ?_);(case side1 => exact Kd.Cz (Kd.V_reads' HO0.out).2.2);(case side2 => exact (Kd.V_reads' HO0.out).2.1);rintro e w12 ⟨rfl,hb⟩;refine ⟨_,rfl,?_⟩;have n0_ := Aside0.mk (Kd.V_below (Kd.Vz HO0.out) hb);have n1_ := Aside0.mk (below_step bz hb);clear HO0;clear HB;have HO0 := n0_;have HB := n1_;clear n0_ n1_;(try clear hb);(try clear hb2);(try clear hk);(try clear hi)))
  go_ret
  exact ⟨by first|rfl|(simp [errW_none,errW_some] <;> rfl)|(simp [*,errW_none,errW_some] <;> rfl),bz⟩

end Go.Proofs.Ytninfokihgbgpaa.P
