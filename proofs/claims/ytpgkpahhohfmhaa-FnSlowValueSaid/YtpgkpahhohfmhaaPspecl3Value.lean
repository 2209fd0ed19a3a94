/- The walk of one Go function that the law reaches: it comes to what the Lean function of its name tells. -/
import Derived.Test.YtpgkpahhohfmhaaP0
import Derived.Test.YtpgkpahhohfmhaaPspecl1Terms
import Derived.Test.YtpgkpahhohfmhaaPspecl3Raise
namespace Go.Proofs.Ytpgkpahhohfmhaa.P
open Go.RowKit Go.Proofs.YtpgkpahhohfmhaaW.PrintWords Go.Proofs.YtpgkpahhohfmhaaW.PrintLast Go.Proofs.YtpgkpahhohfmhaaW.PrintMore
attribute [local go_sem] max2_int min2_int max_two min_two max_three min_three max_four min_four   
set_option linter.unusedVariables false
set_option linter.unusedSimpArgs false

/-! ### spec_l3Value: function 62 -/
mutual
def spec_l3Value.l0 : Nat → Int → List Int → List (List Int) → Int → Int → Option (Int)
 | 0,_,_,_,_,_ => none
 | k + 1,x1,x5,x6,x7,x8 => if x8 < (x5.length : Int) then (if 0 ≤ x8 then (if x8 < (x6.length : Int) then ((spec_l3Value.f k (rd_L3 x6 x8) x1).bind fun t493 => (if t493 < 0 then (some (-1)) else ((spec_l3Raise.f k x1 t493).bind fun t494 => (if t494 < 0 then (some (-1)) else (if (wrap64 (x7 + (wrap64 ((rd x5 x8) * t494)))) > 1000000000 then (some (-1)) else (spec_l3Value.l0 k x1 x5 x6 (wrap64 (x7 + (wrap64 ((rd x5 x8) * t494)))) (wrap64 (x8 + 1)))))))) else (none)) else (none)) else (some x7)
def spec_l3Value.f : Nat → List Int → Int → Option (Int)
 | 0,_,_ => none
 | k + 1,l0,a1 => (spec_l1Terms.f k l0).bind fun bt486 => (spec_l3Value.l0 k a1 bt486.1 bt486.2 0 0)
end
theorem spec_l3Value.mono_l : ∀ k,(∀ y0 y1,LeO (spec_l3Value.f k y0 y1) (spec_l3Value.f (k + 1) y0 y1)) ∧ (∀ y0 y1 y2 y3 y4,LeO (spec_l3Value.l0 k y0 y1 y2 y3 y4) (spec_l3Value.l0 (k + 1) y0 y1 y2 y3 y4))
 | 0 => ⟨fun _ _ r h => by simp [spec_l3Value.f] at h,fun _ _ _ _ _ r h => by simp [spec_l3Value.l0] at h⟩
 | k + 1 => by
  obtain ⟨ih0,ih1⟩ := spec_l3Value.mono_l k
  refine ⟨?_,?_⟩
  ·intro y0 y1
   unfold spec_l3Value.f
   repeat' first|(with_reducible first|exact ih0 _ _|exact ih1 _ _ _ _ _|exact spec_l1Terms.mono _ _|exact LeO.refl _|exact LeO.none _|refine LeO.ite ?_ ?_|refine LeO.bind ?_ (fun _ => ?_))|exact ih0 _ _|exact ih1 _ _ _ _ _|exact spec_l1Terms.mono _ _|exact LeO.none _|refine LeO.ite ?_ ?_|refine LeO.bind ?_ (fun _ => ?_)
  ·intro y0 y1 y2 y3 y4
   unfold spec_l3Value.l0
   repeat' first|(with_reducible first|exact ih0 _ _|exact ih1 _ _ _ _ _|exact spec_l3Raise.mono _ _ _|exact LeO.refl _|exact LeO.none _|refine LeO.ite ?_ ?_|refine LeO.bind ?_ (fun _ => ?_))|exact ih0 _ _|exact ih1 _ _ _ _ _|exact spec_l3Raise.mono _ _ _|exact LeO.none _|refine LeO.ite ?_ ?_|refine LeO.bind ?_ (fun _ => ?_)
theorem spec_l3Value.mono : ∀ a0 a1 k,LeO (spec_l3Value.f k a0 a1) (spec_l3Value.f (k + 1) a0 a1) := by
 intro a0 a1 k
 obtain ⟨ih0,ih1⟩ := spec_l3Value.mono_l k
 exact ih0 a0 a1
set_option maxHeartbeats 8000000 in
set_option maxRecDepth 100000 in
theorem spec_l3Value.calls (k : Nat) : ∀ (A0 : Option Addr) (c0 : Nat) (l0 : List Int) (a1 : Int) (r : Int) (w : World) (hr0 : Kd.C (Kd.int .i64) w A0 l0.length l0) (hc0 : l0.length ≤ c0) (h : spec_l3Value.f k l0 a1 = some r),
  Calls Try.prog 62 #[.slice A0 l0.length c0,.int .i64 a1] w fun e w' => e = .returned (.int .i64 r) ∧ Below w.heap.size w w' := by
 induction k using Nat.strongRecOn with
 | _ k ih =>
 intro A0 c0 l0 a1 r w hr0 hc0 h
 cases k with
 | zero => exact absurd h (by simp [spec_l3Value.f])
 | succ k =>
 simp only [spec_l3Value.f] at h
 have HR0 := Aside0.mk hr0
 have HC0 := Aside0.mk hc0
 clear hr0 hc0
 have HB := Aside0.mk (Below.refl w.heap.size w)
 have H : ((spec_l1Terms.f k l0).bind fun bt486 => (spec_l3Value.l0 k a1 bt486.1 bt486.2 0 0)) = some r := h
 clear h
 replace H := Option.bind_eq_some_iff.mp H
 obtain ⟨⟨t486,t489⟩,A30,H⟩ := H
 replace H : (spec_l3Value.l0 k a1 t486 t489 0 0) = some r := H
 have A3 := Aside0.mk A30
 clear A30
 have H' := Aside0.mk H
 clear H
 go_enter Try.func62,Try.ntmps62
 go_wp2_with (first|((with_reducible refine gate_callee (f := 79) rfl ?_);refine goesL_ (some 13) rfl rfl Try.func79 (by kernel_rfl) rfl #[.slice A0 l0.length c0] rfl az ?_;(with_reducible refine (spec_l1Terms.calls k (fun k_ => k_ < w.heap.size) _ _ l0 t486 t489 _ ?side1 A3.out).mono ?_);(case side1 => exact Kd.V_mk HC0.out (Kd.F_below (Kd.C_F (Kd.heap_int .i64) HR0.out) bz));rintro e w4 ⟨v487,v490,rfl,ho0,ho1,hb⟩;refine ⟨_,rfl,?_⟩;have n0_ := Aside0.mk (Kd.R_lower (Kd.R_mono (ok' := fun k_ => True) ho0 (fun _ hk_ => trivial)) (below_size bz));have n1_ := Aside0.mk (Kd.N_lower (Kd.N_mono (ok' := fun k_ => some k_ ≠ (v487 : Value).ownBlock) ho1 (fun k_ hk_ => hk_.2)) (below_size bz));have n2_ := Aside0.mk (below_step bz hb);clear HB;have HO488 := n0_;have HO491 := n1_;have HB := n2_;clear n0_ n1_ n2_;(try clear hb);(try clear hb2);(try clear hk);(try clear hi);(try clear ho0);(try clear ho1)))
 go_loopg [7,8] k (fun kq v7 v8 w' => ∃ (x7_1 : Int) (x8_1 : Int),v7 = .int .i64 x7_1 ∧ v8 = .int .i64 x8_1 ∧ Aside0 (spec_l3Value.l0 kq a1 t486 t489 x7_1 x8_1 = some r) ∧ Aside0 (kq ≤ k) ∧ Aside0 (Kd.R (Kd.int .i64) 3 w' w.heap.size (fun _ => True) v487 t486) ∧ Aside0 (Kd.N (Kd.slice 3 (Kd.int .i64)) 25 w' w.heap.size (fun k_ => some k_ ≠ (v487 : Value).ownBlock) v490 t489) ∧ Aside0 (Below w.heap.size w w'))
 case atStart => exact ⟨(0),(0),(by first|rfl|(simp;done)|(simp [*];done)),(by first|rfl|(simp;done)|(simp [*];done)),H',⟨Nat.le_refl _⟩,⟨by (with_reducible repeat (first|apply Kd.R_alloc|apply Kd.R_drewN|apply Kd.R_drew));exact HO488.out⟩,⟨by (with_reducible repeat (first|apply Kd.N_alloc|apply Kd.N_drewN|apply Kd.N_drew));exact HO491.out⟩,⟨bz⟩⟩
 case round =>
  clear H'
  try clear p2
  obtain ⟨x7_1,x8_1,rfl,rfl,HA,HK1,HO_5,HO_6,HB⟩ := hrel
  cases gk with
  | zero => exact absurd HA.out (by simp [spec_l3Value.l0])
  | succ k1 =>
   have H := HA.out
   clear HA
   simp only [spec_l3Value.l0] at H
   by_cases c5 : x8_1 < (t486.length : Int)
   ·rw [if_pos c5] at H
    have c5b0 : decide (x8_1 < (t486.length : Int)) = true := decide_eq_true c5
    clear c5
    by_cases c6 : 0 ≤ x8_1
    ·rw [if_pos c6] at H
     have c6b0 : decide (0 ≤ x8_1) = true := decide_eq_true c6
     clear c6
     by_cases c7 : x8_1 < (t489.length : Int)
     ·rw [if_pos c7] at H
      have c7b0 : decide (x8_1 < (t489.length : Int)) = true := decide_eq_true c7
      clear c7
      replace H := Option.bind_eq_some_iff.mp H
      obtain ⟨t493,A80,H⟩ := H
      replace H : (if t493 < 0 then (some (-1)) else ((spec_l3Raise.f k1 a1 t493).bind fun t494 => (if t494 < 0 then (some (-1)) else (if (wrap64 (x7_1 + (wrap64 ((rd t486 x8_1) * t494)))) > 1000000000 then (some (-1)) else (spec_l3Value.l0 k1 a1 t486 t489 (wrap64 (x7_1 + (wrap64 ((rd t486 x8_1) * t494)))) (wrap64 (x8_1 + 1))))))) = some r := H
      have A8 := Aside0.mk A80
      clear A80
      by_cases c9 : t493 < 0
      ·rw [if_pos c9] at H
       have c9b0 : decide (t493 < 0) = true := decide_eq_true c9
       clear c9
       obtain rfl := Option.some.inj H
       obtain ⟨Ao10,co10,eo10⟩ := Kd.R_slice HO_5.out
       subst eo10
       obtain ⟨Ao11,co11,eo11⟩ := Kd.N_slice HO_6.out
       subst eo11
       have p492 : 0 ≤ (x8_1 : Int) := dz
       have q492 : x8_1 < (t489.length : Int) := dz
       obtain ⟨ad492,A492_0,c492_0,e492,hx492_0,hl492_0,hi492_0⟩ := at_L3 (Kd.N_reads' HO_6.out).2.2 x8_1 p492 q492
       cases e492
       obtain ⟨ce492,hce492,hMe492,hcc492⟩ := Kd.N_get HO_6.out [] x8_1 p492 (by first|exact q492|exact dz|(have e_ := (Kd.N_reads' HO_6.out).1;omega))
       obtain ⟨ua492_0,uc492_0,rfl,ul492_0,ge492_0⟩ := Kd.FK_slice_open hMe492
       have hv492_0 := hcc492 0 _ rfl
       rw [Nat.add_zero,show ((Kd.slice 3 (Kd.int .i64))).sz = 1 from rfl,Nat.mul_one] at hv492_0
       replace hv492_0 := Option.some.inj (hv492_0.symm.trans hx492_0)
       injection hv492_0 with hva_ hvn_ hvc_
       rw [hva_] at ge492_0
       rw [hvc_] at ul492_0
       have HL492_0 := Aside0.mk (show Kd.V (Kd.int .i64) 3 _ w.heap.size _ _ (rd_L3 t489 x8_1) from Kd.V_mk ul492_0 ge492_0)
       clear hva_ hvn_ hvc_ ge492_0 ul492_0
       clear hcc492 hce492
       have HR492_0 := Aside0.mk hi492_0
       have HC492_0 := Aside0.mk hl492_0
       clear hi492_0 hl492_0
       replace p492 := eq_true p492
       replace q492 := eq_true q492
       go_wp2_with (first|((with_reducible refine gate_callee (f := 62) rfl ?_);refine goesL_ (some 27) rfl rfl Try.func62 (by kernel_rfl) rfl #[.slice A492_0 (rd_L3 t489 x8_1).length c492_0,.int .i64 a1] rfl az ?_;(with_reducible refine (ih k1 (by have := HK1.out;omega) _ _ (rd_L3 t489 x8_1) a1 t493 _ ?side1 ?side2 A8.out).mono ?_);(case side1 => repeat (first|exact (by repeat (first|(with_reducible exact HR492_0.out)|(with_reducible refine Kd.C_alloc ?_ _)|(with_reducible refine Kd.C_drewN ?_ _)|(with_reducible refine Kd.C_drew ?_)|exact HR492_0.out))|(with_reducible refine Kd.C_alloc ?_ _)|(with_reducible refine Kd.C_drewN ?_ _)|(with_reducible refine Kd.C_drew ?_)));(case side2 => exact HC492_0.out);rintro e w12 ⟨rfl,hb⟩;refine ⟨_,rfl,?_⟩;have n0_ := Aside0.mk (Kd.R_below (Kd.Rz HO_5.out) hb);have n1_ := Aside0.mk (Kd.N_below (Kd.Nz HO_6.out) hb);have n2_ := Aside0.mk (Kd.V_below (Kd.Vz HL492_0.out) hb);have n3_ := Aside0.mk (Kd.C_below (by repeat (first|(with_reducible exact HR492_0.out)|(with_reducible refine Kd.C_alloc ?_ _)|(with_reducible refine Kd.C_drewN ?_ _)|(with_reducible refine Kd.C_drew ?_)|exact HR492_0.out)) hb);have n4_ := Aside0.mk (below_step bz hb);clear HO_5;clear HO_6;clear HL492_0;clear HR492_0;clear HB;have HO_5 := n0_;have HO_6 := n1_;have HL492_0 := n2_;have HR492_0 := n3_;have HB := n4_;clear n0_ n1_ n2_ n3_ n4_;(try clear hb);(try clear hb2);(try clear hk);(try clear hi)))
       go_ret
       exact ⟨by first|rfl|(simp [errW_none,errW_some] <;> rfl)|(simp [*,errW_none,errW_some] <;> rfl),bz⟩
      ·rw [if_neg c9] at H
       have c9b0 : decide (t493 < 0) = false := decide_eq_false c9
       clear c9
       replace H := Option.bind_eq_some_iff.mp H
       obtain ⟨t494,A130,H⟩ := H
       replace H : (if t494 < 0 then (some (-1)) else (if (wrap64 (x7_1 + (wrap64 ((rd t486 x8_1) * t494)))) > 1000000000 then (some (-1)) else (spec_l3Value.l0 k1 a1 t486 t489 (wrap64 (x7_1 + (wrap64 ((rd t486 x8_1) * t494)))) (wrap64 (x8_1 + 1))))) = some r := H
       have A13 := Aside0.mk A130
       clear A130
       by_cases c14 : t494 < 0
       ·rw [if_pos c14] at H
        have c14b0 : decide (t494 < 0) = true := decide_eq_true c14
        clear c14
        obtain rfl := Option.some.inj H
        obtain ⟨Ao15,co15,eo15⟩ := Kd.R_slice HO_5.out
        subst eo15
        obtain ⟨Ao16,co16,eo16⟩ := Kd.N_slice HO_6.out
        subst eo16
        have p492 : 0 ≤ (x8_1 : Int) := dz
        have q492 : x8_1 < (t489.length : Int) := dz
        obtain ⟨ad492,A492_0,c492_0,e492,hx492_0,hl492_0,hi492_0⟩ := at_L3 (Kd.N_reads' HO_6.out).2.2 x8_1 p492 q492
        cases e492
        obtain ⟨ce492,hce492,hMe492,hcc492⟩ := Kd.N_get HO_6.out [] x8_1 p492 (by first|exact q492|exact dz|(have e_ := (Kd.N_reads' HO_6.out).1;omega))
        obtain ⟨ua492_0,uc492_0,rfl,ul492_0,ge492_0⟩ := Kd.FK_slice_open hMe492
        have hv492_0 := hcc492 0 _ rfl
        rw [Nat.add_zero,show ((Kd.slice 3 (Kd.int .i64))).sz = 1 from rfl,Nat.mul_one] at hv492_0
        replace hv492_0 := Option.some.inj (hv492_0.symm.trans hx492_0)
        injection hv492_0 with hva_ hvn_ hvc_
        rw [hva_] at ge492_0
        rw [hvc_] at ul492_0
        have HL492_0 := Aside0.mk (show Kd.V (Kd.int .i64) 3 _ w.heap.size _ _ (rd_L3 t489 x8_1) from Kd.V_mk ul492_0 ge492_0)
        clear hva_ hvn_ hvc_ ge492_0 ul492_0
        clear hcc492 hce492
        have HR492_0 := Aside0.mk hi492_0
        have HC492_0 := Aside0.mk hl492_0
        clear hi492_0 hl492_0
        replace p492 := eq_true p492
        replace q492 := eq_true q492
        go_wp2_with (first|((with_reducible refine gate_callee (f := 62) rfl ?_);refine goesL_ (some 27) rfl rfl Try.func62 (by kernel_rfl) rfl #[.slice A492_0 (rd_L3 t489 x8_1).length c492_0,.int .i64 a1] rfl az ?_;(with_reducible refine (ih k1 (by have := HK1.out;omega) _ _ (rd_L3 t489 x8_1) a1 t493 _ ?side1 ?side2 A8.out).mono ?_);(case side1 => repeat (first|exact (by repeat (first|(with_reducible exact HR492_0.out)|(with_reducible refine Kd.C_alloc ?_ _)|(with_reducible refine Kd.C_drewN ?_ _)|(with_reducible refine Kd.C_drew ?_)|exact HR492_0.out))|(with_reducible refine Kd.C_alloc ?_ _)|(with_reducible refine Kd.C_drewN ?_ _)|(with_reducible refine Kd.C_drew ?_)));(case side2 => exact HC492_0.out);rintro e w17 ⟨rfl,hb⟩;refine ⟨_,rfl,?_⟩;have n0_ := Aside0.mk (Kd.R_below (Kd.Rz HO_5.out) hb);have n1_ := Aside0.mk (Kd.N_below (Kd.Nz HO_6.out) hb);have n2_ := Aside0.mk (Kd.V_below (Kd.Vz HL492_0.out) hb);have n3_ := Aside0.mk (Kd.C_below (by repeat (first|(with_reducible exact HR492_0.out)|(with_reducible refine Kd.C_alloc ?_ _)|(with_reducible refine Kd.C_drewN ?_ _)|(with_reducible refine Kd.C_drew ?_)|exact HR492_0.out)) hb);have n4_ := Aside0.mk (below_step bz hb);clear HO_5;clear HO_6;clear HL492_0;clear HR492_0;clear HB;have HO_5 := n0_;have HO_6 := n1_;have HL492_0 := n2_;have HR492_0 := n3_;have HB := n4_;clear n0_ n1_ n2_ n3_ n4_;(try clear hb);(try clear hb2);(try clear hk);(try clear hi))|((with_reducible refine gate_callee (f := 80) rfl ?_);refine goesL_ (some 32) rfl rfl Try.func80 (by kernel_rfl) rfl #[.int .i64 a1,.int .i64 t493] rfl az ?_;(with_reducible refine (spec_l3Raise.calls k1 a1 t493 t494 _ A13.out).mono ?_);rintro e w' ⟨rfl,⟨nd,rfl⟩⟩;refine ⟨_,rfl,?_⟩))
        go_ret
        exact ⟨by first|rfl|(simp [errW_none,errW_some] <;> rfl)|(simp [*,errW_none,errW_some] <;> rfl),bz⟩
       ·rw [if_neg c14] at H
        have c14b0 : decide (t494 < 0) = false := decide_eq_false c14
        clear c14
        by_cases c18 : (wrap64 (x7_1 + (wrap64 ((rd t486 x8_1) * t494)))) > 1000000000
        ·rw [if_pos c18] at H
         have c18b0 : decide (1000000000 < (wrap64 (x7_1 + (wrap64 ((rd t486 x8_1) * t494))))) = true := decide_eq_true c18
         clear c18
         obtain rfl := Option.some.inj H
         obtain ⟨Ao19,co19,eo19⟩ := Kd.R_slice HO_5.out
         subst eo19
         obtain ⟨Ao20,co20,eo20⟩ := Kd.N_slice HO_6.out
         subst eo20
         have p492 : 0 ≤ (x8_1 : Int) := dz
         have q492 : x8_1 < (t489.length : Int) := dz
         obtain ⟨ad492,A492_0,c492_0,e492,hx492_0,hl492_0,hi492_0⟩ := at_L3 (Kd.N_reads' HO_6.out).2.2 x8_1 p492 q492
         cases e492
         obtain ⟨ce492,hce492,hMe492,hcc492⟩ := Kd.N_get HO_6.out [] x8_1 p492 (by first|exact q492|exact dz|(have e_ := (Kd.N_reads' HO_6.out).1;omega))
         obtain ⟨ua492_0,uc492_0,rfl,ul492_0,ge492_0⟩ := Kd.FK_slice_open hMe492
         have hv492_0 := hcc492 0 _ rfl
         rw [Nat.add_zero,show ((Kd.slice 3 (Kd.int .i64))).sz = 1 from rfl,Nat.mul_one] at hv492_0
         replace hv492_0 := Option.some.inj (hv492_0.symm.trans hx492_0)
         injection hv492_0 with hva_ hvn_ hvc_
         rw [hva_] at ge492_0
         rw [hvc_] at ul492_0
         have HL492_0 := Aside0.mk (show Kd.V (Kd.int .i64) 3 _ w.heap.size _ _ (rd_L3 t489 x8_1) from Kd.V_mk ul492_0 ge492_0)
         clear hva_ hvn_ hvc_ ge492_0 ul492_0
         clear hcc492 hce492
         have HR492_0 := Aside0.mk hi492_0
         have HC492_0 := Aside0.mk hl492_0
         clear hi492_0 hl492_0
         replace p492 := eq_true p492
         replace q492 := eq_true q492
         go_wp2_with (first|((with_reducible refine gate_callee (f := 62) rfl ?_);refine goesL_ (some 27) rfl rfl Try.func62 (by kernel_rfl) rfl #[.slice A492_0 (rd_L3 t489 x8_1).length c492_0,.int .i64 a1] rfl az ?_;(with_reducible refine (ih k1 (by have := HK1.out;omega) _ _ (rd_L3 t489 x8_1) a1 t493 _ ?side1 ?side2 A8.out).mono ?_);(case side1 => repeat (first|exact (by repeat (first|(with_reducible exact HR492_0.out)|(with_reducible refine Kd.C_alloc ?_ _)|(with_reducible refine Kd.C_drewN ?_ _)|(with_reducible refine Kd.C_drew ?_)|exact HR492_0.out))|(with_reducible refine Kd.C_alloc ?_ _)|(with_reducible refine Kd.C_drewN ?_ _)|(with_reducible refine Kd.C_drew ?_)));(case side2 => exact HC492_0.out);rintro e w21 ⟨rfl,hb⟩;refine ⟨_,rfl,?_⟩;have n0_ := Aside0.mk (Kd.R_below (Kd.Rz HO_5.out) hb);have n1_ := Aside0.mk (Kd.N_below (Kd.Nz HO_6.out) hb);have n2_ := Aside0.mk (Kd.V_below (Kd.Vz HL492_0.out) hb);have n3_ := Aside0.mk (Kd.C_below (by repeat (first|(with_reducible exact HR492_0.out)|(with_reducible refine Kd.C_alloc ?_ _)|(with_reducible refine Kd.C_drewN ?_ _)|(with_reducible refine Kd.C_drew ?_)|exact HR492_0.out)) hb);have n4_ := Aside0.mk (below_step bz hb);clear HO_5;clear HO_6;clear HL492_0;clear HR492_0;clear HB;have HO_5 := n0_;have HO_6 := n1_;have HL492_0 := n2_;have HR492_0 := n3_;have HB := n4_;clear n0_ n1_ n2_ n3_ n4_;(try clear hb);(try clear hb2);(try clear hk);(try clear hi))|((with_reducible refine gate_callee (f := 80) rfl ?_);refine goesL_ (some 32) rfl rfl Try.func80 (by kernel_rfl) rfl #[.int .i64 a1,.int .i64 t493] rfl az ?_;(with_reducible refine (spec_l3Raise.calls k1 a1 t493 t494 _ A13.out).mono ?_);rintro e w' ⟨rfl,⟨nd,rfl⟩⟩;refine ⟨_,rfl,?_⟩;have p495 : 0 ≤ (x8_1 : Int) := dz;have q495 : x8_1 < (t486.length : Int) := dz;obtain ⟨ad495,e495,hx495_0⟩ := Kd.at_int (Kd.R_reads' HO_5.out).2.2 x8_1 p495 q495;cases e495;replace p495 := eq_true p495;replace q495 := eq_true q495))
         go_ret
         exact ⟨by first|rfl|(simp [errW_none,errW_some] <;> rfl)|(simp [*,errW_none,errW_some] <;> rfl),bz⟩
        ·rw [if_neg c18] at H
         have c18b0 : decide (1000000000 < (wrap64 (x7_1 + (wrap64 ((rd t486 x8_1) * t494))))) = false := decide_eq_false c18
         clear c18
         have H' := Aside0.mk H
         clear H
         obtain ⟨Ao22,co22,eo22⟩ := Kd.R_slice HO_5.out
         subst eo22
         obtain ⟨Ao23,co23,eo23⟩ := Kd.N_slice HO_6.out
         subst eo23
         have p492 : 0 ≤ (x8_1 : Int) := dz
         have q492 : x8_1 < (t489.length : Int) := dz
         obtain ⟨ad492,A492_0,c492_0,e492,hx492_0,hl492_0,hi492_0⟩ := at_L3 (Kd.N_reads' HO_6.out).2.2 x8_1 p492 q492
         cases e492
         obtain ⟨ce492,hce492,hMe492,hcc492⟩ := Kd.N_get HO_6.out [] x8_1 p492 (by first|exact q492|exact dz|(have e_ := (Kd.N_reads' HO_6.out).1;omega))
         obtain ⟨ua492_0,uc492_0,rfl,ul492_0,ge492_0⟩ := Kd.FK_slice_open hMe492
         have hv492_0 := hcc492 0 _ rfl
         rw [Nat.add_zero,show ((Kd.slice 3 (Kd.int .i64))).sz = 1 from rfl,Nat.mul_one] at hv492_0
         replace hv492_0 := Option.some.inj (hv492_0.symm.trans hx492_0)
         injection hv492_0 with hva_ hvn_ hvc_
         rw [hva_] at ge492_0
         rw [hvc_] at ul492_0
         have HL492_0 := Aside0.mk (show Kd.V (Kd.int .i64) 3 _ w.heap.size _ _ (rd_L3 t489 x8_1) from Kd.V_mk ul492_0 ge492_0)
         clear hva_ hvn_ hvc_ ge492_0 ul492_0
         clear hcc492 hce492
         have HR492_0 := Aside0.mk hi492_0
         have HC492_0 := Aside0.mk hl492_0
         clear hi492_0 hl492_0
         replace p492 := eq_true p492
         replace q492 := eq_true q492
         go_wp2_with (first|((with_reducible refine gate_callee (f := 62) rfl ?_);refine goesL_ (some 27) rfl rfl Try.func62 (by kernel_rfl) rfl #[.slice A492_0 (rd_L3 t489 x8_1).length c492_0,.int .i64 a1] rfl az ?_;(with_reducible refine (ih k1 (by have := HK1.out;omega) _ _ (rd_L3 t489 x8_1) a1 t493 _ ?side1 ?side2 A8.out).mono ?_);(case side1 => repeat (first|exact (by repeat (first|(with_reducible exact HR492_0.out)|(with_reducible refine Kd.C_alloc ?_ _)|(with_reducible refine Kd.C_drewN ?_ _)|(with_reducible refine Kd.C_drew ?_)|exact HR492_0.out))|(with_reducible refine Kd.C_alloc ?_ _)|(with_reducible refine Kd.C_drewN ?_ _)|(with_reducible refine Kd.C_drew ?_)));(case side2 => exact HC492_0.out);rintro e w24 ⟨rfl,hb⟩;refine ⟨_,rfl,?_⟩;have n0_ := Aside0.mk (Kd.R_below (Kd.Rz HO_5.out) hb);have n1_ := Aside0.mk (Kd.N_below (Kd.Nz HO_6.out) hb);have n2_ := Aside0.mk (Kd.V_below (Kd.Vz HL492_0.out) hb);have n3_ := Aside0.mk (Kd.C_below (by repeat (first|(with_reducible exact HR492_0.out)|(with_reducible refine Kd.C_alloc ?_ _)|(with_reducible refine Kd.C_drewN ?_ _)|(with_reducible refine Kd.C_drew ?_)|exact HR492_0.out)) hb);have n4_ := Aside0.mk (below_step bz hb);clear HO_5;clear HO_6;clear HL492_0;clear HR492_0;clear HB;have HO_5 := n0_;have HO_6 := n1_;have HL492_0 := n2_;have HR492_0 := n3_;have HB := n4_;clear n0_ n1_ n2_ n3_ n4_;(try clear hb);(try clear hb2);(try clear hk);(try clear hi))|((with_reducible refine gate_callee (f := 80) rfl ?_);refine goesL_ (some 32) rfl rfl Try.func80 (by kernel_rfl) rfl #[.int .i64 a1,.int .i64 t493] rfl az ?_;(with_reducible refine (spec_l3Raise.calls k1 a1 t493 t494 _ A13.out).mono ?_);rintro e w' ⟨rfl,⟨nd,rfl⟩⟩;refine ⟨_,rfl,?_⟩;have p495 : 0 ≤ (x8_1 : Int) := dz;have q495 : x8_1 < (t486.length : Int) := dz;obtain ⟨ad495,e495,hx495_0⟩ := Kd.at_int (Kd.R_reads' HO_5.out).2.2 x8_1 p495 q495;cases e495;replace p495 := eq_true p495;replace q495 := eq_true q495))
         go_roundg k1
         case measure => have := HK1.out;omega
         case rel => exact ⟨(wrap64 (x7_1 + (wrap64 ((rd t486 x8_1) * t494)))),(wrap64 (x8_1 + 1)),(by first|rfl|(simp;done)|(simp [*];done)),(by first|rfl|(simp;done)|(simp [*];done)),H',⟨by have := HK1.out;omega⟩,⟨by (with_reducible repeat (first|apply Kd.R_alloc|apply Kd.R_drewN|apply Kd.R_drew));exact HO_5.out⟩,⟨by (with_reducible repeat (first|apply Kd.N_alloc|apply Kd.N_drewN|apply Kd.N_drew));exact HO_6.out⟩,⟨bz⟩⟩
     ·rw [if_neg c7] at H
      exact absurd H (by simp)
    ·rw [if_neg c6] at H
     exact absurd H (by simp)
   ·rw [if_neg c5] at H
    have c5b0 : decide (x8_1 < (t486.length : Int)) = false := decide_eq_false c5
    clear c5
    obtain rfl := Option.some.inj H
    obtain ⟨Ao25,co25,eo25⟩ := Kd.R_slice HO_5.out
    subst eo25
    go_wp2
    go_ret
    exact ⟨by first|rfl|(simp [errW_none,errW_some] <;> rfl)|(simp [*,errW_none,errW_some] <;> rfl),bz⟩

end Go.Proofs.Ytpgkpahhohfmhaa.P
