/- The walk of one Go function that the law reaches: it comes to what the Lean function of its name tells. -/
import Derived.Test.YtninfokihgbgpaaP0
import Derived.Test.YtninfokihgbgpaaPspecOrdValid
import Derived.Test.YtninfokihgbgpaaPspecl1Terms
namespace Go.Proofs.Ytninfokihgbgpaa.P
open Go.RowKit Go.Proofs.YtninfokihgbgpaaW.PrintWords Go.Proofs.YtninfokihgbgpaaW.PrintLast Go.Proofs.YtninfokihgbgpaaW.PrintMore
attribute [local go_sem] max2_int min2_int max_two min_two max_three min_three max_four min_four   
set_option linter.unusedVariables false
set_option linter.unusedSimpArgs false

/-! ### spec_OrdMost: function 35 -/
mutual
def spec_OrdMost.l0 : Nat → List Int → List (List Int) → Int → Int → Option (Int)
 | 0,_,_,_,_ => none
 | k + 1,x3,x4,x5,x6 => if x6 < (x3.length : Int) then (if 0 ≤ x6 then (if x6 < (x4.length : Int) then ((spec_OrdMost.f k (rd_L3 x4 x6)).bind fun t717 => (spec_OrdMost.l0 k x3 x4 (mx x5 (mx (rd x3 x6) t717)) (wrap64 (x6 + 1)))) else (none)) else (none)) else (some x5)
def spec_OrdMost.f : Nat → List Int → Option (Int)
 | 0,_ => none
 | k + 1,l0 => (spec_OrdValid.f k l0).bind fun t708 => (if t708 = true then ((spec_l1Terms.f k l0).bind fun bt709 => (spec_OrdMost.l0 k bt709.1 bt709.2 0 0)) else (some (-1)))
end
theorem spec_OrdMost.mono_l : ∀ k,(∀ y0,LeO (spec_OrdMost.f k y0) (spec_OrdMost.f (k + 1) y0)) ∧ (∀ y0 y1 y2 y3,LeO (spec_OrdMost.l0 k y0 y1 y2 y3) (spec_OrdMost.l0 (k + 1) y0 y1 y2 y3))
 | 0 => ⟨fun _ r h => by simp [spec_OrdMost.f] at h,fun _ _ _ _ r h => by simp [spec_OrdMost.l0] at h⟩
 | k + 1 => by
  obtain ⟨ih0,ih1⟩ := spec_OrdMost.mono_l k
  refine ⟨?_,?_⟩
  ·intro y0
   unfold spec_OrdMost.f
   repeat' first|(with_reducible first|exact ih0 _|exact ih1 _ _ _ _|exact spec_OrdValid.mono _ _|exact spec_l1Terms.mono _ _|exact LeO.refl _|exact LeO.none _|refine LeO.ite ?_ ?_|refine LeO.bind ?_ (fun _ => ?_))|exact ih0 _|exact ih1 _ _ _ _|exact spec_OrdValid.mono _ _|exact spec_l1Terms.mono _ _|exact LeO.none _|refine LeO.ite ?_ ?_|refine LeO.bind ?_ (fun _ => ?_)
  ·intro y0 y1 y2 y3
   unfold spec_OrdMost.l0
   repeat' first|(with_reducible first|exact ih0 _|exact ih1 _ _ _ _|exact LeO.refl _|exact LeO.none _|refine LeO.ite ?_ ?_|refine LeO.bind ?_ (fun _ => ?_))|exact ih0 _|exact ih1 _ _ _ _|exact LeO.none _|refine LeO.ite ?_ ?_|refine LeO.bind ?_ (fun _ => ?_)
theorem spec_OrdMost.mono : ∀ a0 k,LeO (spec_OrdMost.f k a0) (spec_OrdMost.f (k + 1) a0) := by
 intro a0 k
 obtain ⟨ih0,ih1⟩ := spec_OrdMost.mono_l k
 exact ih0 a0
def spec_OrdMost.T8 : Bool × List (List Nat × List Nat) := (true,[([],[]),([],[]),([],[]),([1,2],[1,2]),([3],[3]),([],[]),([],[]),([5,6],[5,6]),([7],[7]),([8],[8]),([4,9],[4,9]),([0,10],[0,10]),([11,9,0,1,2,3,4,5,6,7,8,9,10,11],[0,11])])
def spec_OrdMost.B8 : List Nat := [0,0,0,6,14,0,0,96,224,480,1022,2047,4095]
theorem spec_OrdMost.tab8 : rtab .any (opsOf Try.f35 8) = spec_OrdMost.T8 := by kernel_rfl
theorem spec_OrdMost.bits8 : waitsOk spec_OrdMost.T8.2 spec_OrdMost.B8 = true := by kernel_rfl
set_option maxHeartbeats 8000000 in
set_option maxRecDepth 100000 in
theorem spec_OrdMost.calls (k : Nat) : ∀ (A0 : Option Addr) (c0 : Nat) (l0 : List Int) (r : Int) (w : World) (hr0 : Kd.C (Kd.int .i64) w A0 l0.length l0) (hc0 : l0.length ≤ c0) (h : spec_OrdMost.f k l0 = some r),
  Calls Try.prog 35 #[.slice A0 l0.length c0] w fun e w' => e = .returned (.int .i64 r) ∧ Below w.heap.size w w' := by
 induction k using Nat.strongRecOn with
 | _ k ih =>
 intro A0 c0 l0 r w hr0 hc0 h
 cases k with
 | zero => exact absurd h (by simp [spec_OrdMost.f])
 | succ k =>
 simp only [spec_OrdMost.f] at h
 have HR0 := Aside0.mk hr0
 have HC0 := Aside0.mk hc0
 clear hr0 hc0
 have HB := Aside0.mk (Below.refl w.heap.size w)
 have H : ((spec_OrdValid.f k l0).bind fun t708 => (if t708 = true then ((spec_l1Terms.f k l0).bind fun bt709 => (spec_OrdMost.l0 k bt709.1 bt709.2 0 0)) else (some (-1)))) = some r := h
 clear h
 replace H := Option.bind_eq_some_iff.mp H
 obtain ⟨t708,A20,H⟩ := H
 replace H : (if t708 = true then ((spec_l1Terms.f k l0).bind fun bt709 => (spec_OrdMost.l0 k bt709.1 bt709.2 0 0)) else (some (-1))) = some r := H
 have A2 := Aside0.mk A20
 clear A20
 by_cases c3 : t708 = true
 ·subst c3
  have H1 : ((spec_l1Terms.f k l0).bind fun bt709 => (spec_OrdMost.l0 k bt709.1 bt709.2 0 0)) = some r := by rw [if_pos rfl] at H;exact H
  clear H
  have H := H1
  clear H1
  replace H := Option.bind_eq_some_iff.mp H
  obtain ⟨⟨t709,t712⟩,A40,H⟩ := H
  replace H : (spec_OrdMost.l0 k t709 t712 0 0) = some r := H
  have A4 := Aside0.mk A40
  clear A40
  have H' := Aside0.mk H
  clear H
  go_enter Try.func35,Try.ntmps35
  go_wp2_with (first|((with_reducible refine gate_callee (f := 24) rfl ?_);refine goesL_ (some 8) rfl rfl Try.func24 (by kernel_rfl) rfl #[.slice A0 l0.length c0] rfl az ?_;(with_reducible refine (spec_OrdValid.calls k _ _ l0 true _ ?side1 ?side2 A2.out).mono ?_);(case side1 => exact Kd.Cz HR0.out);(case side2 => exact HC0.out);rintro e w5 ⟨rfl,hb⟩;refine ⟨_,rfl,?_⟩;have n0_ := Aside0.mk (below_step bz hb);clear HB;have HB := n0_;clear n0_;(try clear hb);(try clear hb2);(try clear hk);(try clear hi))|((with_reducible refine gate_callee (f := 65) rfl ?_);refine goesL_ (some 12) rfl rfl Try.func65 (by kernel_rfl) rfl #[.slice A0 l0.length c0] rfl az ?_;(with_reducible refine (spec_l1Terms.calls k (fun k_ => k_ < w.heap.size) _ _ l0 t709 t712 _ ?side1 A4.out).mono ?_);(case side1 => exact Kd.V_mk HC0.out (Kd.F_below (Kd.C_F (Kd.heap_int .i64) HR0.out) bz));rintro e w6 ⟨v710,v713,rfl,ho0,ho1,hb⟩;refine ⟨_,rfl,?_⟩;have n0_ := Aside0.mk (Kd.R_lower (Kd.R_mono (ok' := fun k_ => True) ho0 (fun _ hk_ => trivial)) (below_size bz));have n1_ := Aside0.mk (Kd.N_lower (Kd.N_mono (ok' := fun k_ => some k_ ≠ (v710 : Value).ownBlock) ho1 (fun k_ hk_ => hk_.2)) (below_size bz));have n2_ := Aside0.mk (below_step bz hb);clear HB;have HO711 := n0_;have HO714 := n1_;have HB := n2_;clear n0_ n1_ n2_;(try clear hb);(try clear hb2);(try clear hk);(try clear hi);(try clear ho0);(try clear ho1)))
  go_loopg [5,6] k (fun kq v5 v6 w' => ∃ (x5_1 : Int) (x6_1 : Int),v5 = .int .i64 x5_1 ∧ v6 = .int .i64 x6_1 ∧ Aside0 (spec_OrdMost.l0 kq t709 t712 x5_1 x6_1 = some r) ∧ Aside0 (kq ≤ k) ∧ Aside0 (Kd.R (Kd.int .i64) 3 w' w.heap.size (fun _ => True) v710 t709) ∧ Aside0 (Kd.N (Kd.slice 3 (Kd.int .i64)) 24 w' w.heap.size (fun k_ => some k_ ≠ (v710 : Value).ownBlock) v713 t712) ∧ Aside0 (Below w.heap.size w w'))
  case atStart => exact ⟨(0),(0),(by first|rfl|(simp;done)|(simp [*];done)),(by first|rfl|(simp;done)|(simp [*];done)),H',⟨Nat.le_refl _⟩,⟨by (with_reducible repeat (first|apply Kd.R_alloc|apply Kd.R_drewN|apply Kd.R_drew));exact HO711.out⟩,⟨by (with_reducible repeat (first|apply Kd.N_alloc|apply Kd.N_drewN|apply Kd.N_drew));exact HO714.out⟩,⟨bz⟩⟩
  case round =>
   clear H'
   try clear c2
   try clear p2
   try clear c3
   try clear c6
   obtain ⟨x5_1,x6_1,rfl,rfl,HA,HK1,HO_3,HO_4,HB⟩ := hrel
   cases gk with
   | zero => exact absurd HA.out (by simp [spec_OrdMost.l0])
   | succ k1 =>
    have H := HA.out
    clear HA
    simp only [spec_OrdMost.l0] at H
    by_cases c7 : x6_1 < (t709.length : Int)
    ·rw [if_pos c7] at H
     have c7b0 : decide (x6_1 < (t709.length : Int)) = true := decide_eq_true c7
     clear c7
     by_cases c8 : 0 ≤ x6_1
     ·rw [if_pos c8] at H
      have c8b0 : decide (0 ≤ x6_1) = true := decide_eq_true c8
      clear c8
      by_cases c9 : x6_1 < (t712.length : Int)
      ·rw [if_pos c9] at H
       have c9b0 : decide (x6_1 < (t712.length : Int)) = true := decide_eq_true c9
       clear c9
       replace H := Option.bind_eq_some_iff.mp H
       obtain ⟨t717,A100,H⟩ := H
       replace H : (spec_OrdMost.l0 k1 t709 t712 (mx x5_1 (mx (rd t709 x6_1) t717)) (wrap64 (x6_1 + 1))) = some r := H
       have A10 := Aside0.mk A100
       clear A100
       obtain ⟨ji11,hji11⟩ : ∃ j_ : Int,(mx (rd t709 x6_1) t717) = j_ := ⟨_,rfl⟩
       replace H : (spec_OrdMost.l0 k1 t709 t712 (mx x5_1 (ji11)) (wrap64 (x6_1 + 1))) = some r := by first|(rw [hji11] at H;exact H)|(simp only [hji11] at H ⊢;exact H)
       (try rw [hji11] at A10)
       have hji11_ : (if (rd t709 x6_1) < t717 then t717 else (rd t709 x6_1)) = ji11 := hji11
       obtain ⟨ji12,hji12⟩ : ∃ j_ : Int,(mx x5_1 (ji11)) = j_ := ⟨_,rfl⟩
       replace H : (spec_OrdMost.l0 k1 t709 t712 ji12 (wrap64 (x6_1 + 1))) = some r := by first|(rw [hji12] at H;exact H)|(simp only [hji12] at H ⊢;exact H)
       (try rw [hji12] at A10)
       have hji12_ : (if x5_1 < (ji11) then (ji11) else x5_1) = ji12 := hji12
       have H' := Aside0.mk H
       clear H
       obtain ⟨Ao13,co13,eo13⟩ := Kd.R_slice HO_3.out
       subst eo13
       try go_wp2
       have n0_ := Aside0.mk (Kd.R_drew HO_3.out)
       have n1_ := Aside0.mk (Kd.N_drew HO_4.out)
       have n2_ := Aside0.mk (below_drew1 HB.out)
       clear HO_3
       clear HO_4
       clear HB
       have HO_3 := n0_
       have HO_4 := n1_
       have HB := n2_
       clear n0_ n1_ n2_
       have p715 : 0 ≤ (x6_1 : Int) := dz
       have q715 : x6_1 < (t709.length : Int) := dz
       obtain ⟨ad715,e715,hx715_0⟩ := Kd.at_int (Kd.R_reads' HO_3.out).2.2 x6_1 p715 q715
       cases e715
       replace p715 := eq_true p715
       replace q715 := eq_true q715
       obtain ⟨Ao15,co15,eo15⟩ := Kd.N_slice HO_4.out
       (first|subst eo15|(injection eo15 with f1_ f2_ f3_;have f4_ := f1_.symm;have f5_ := f3_.symm;clear f1_ f2_ f3_;subst f4_;subst f5_))
       have p716 : 0 ≤ (x6_1 : Int) := dz
       have q716 : x6_1 < (t712.length : Int) := dz
       obtain ⟨ad716,A716_0,c716_0,e716,hx716_0,hl716_0,hi716_0⟩ := at_L3 (Kd.N_reads' HO_4.out).2.2 x6_1 p716 q716
       cases e716
       obtain ⟨ce716,hce716,hMe716,hcc716⟩ := Kd.N_get HO_4.out [] x6_1 p716 (by first|exact q716|exact dz|(have e_ := (Kd.N_reads' HO_4.out).1;omega))
       obtain ⟨ua716_0,uc716_0,rfl,ul716_0,ge716_0⟩ := Kd.FK_slice_open hMe716
       have hv716_0 := hcc716 0 _ rfl
       rw [Nat.add_zero,show ((Kd.slice 3 (Kd.int .i64))).sz = 1 from rfl,Nat.mul_one] at hv716_0
       replace hv716_0 := Option.some.inj (hv716_0.symm.trans hx716_0)
       injection hv716_0 with hva_ hvn_ hvc_
       rw [hva_] at ge716_0
       rw [hvc_] at ul716_0
       have HL716_0 := Aside0.mk (show Kd.V (Kd.int .i64) 3 _ w.heap.size _ _ (rd_L3 t712 x6_1) from Kd.V_mk ul716_0 ge716_0)
       clear hva_ hvn_ hvc_ ge716_0 ul716_0
       clear hcc716 hce716
       have HR716_0 := Aside0.mk hi716_0
       have HC716_0 := Aside0.mk hl716_0
       clear hi716_0 hl716_0
       replace p716 := eq_true p716
       replace q716 := eq_true q716
       refine start_ (n := 13) (S := fun w' => w'.cell? (ad715.add (x6_1).toNat) = some (.int .i64 (rd t709 x6_1)) ∧ w'.cell? (ad716.add (x6_1).toNat) = some (.slice A716_0 (rd_L3 t712 x6_1).length c716_0)) (ds := []) #[false,false,false,false,false,false,false,false,false,false,false,false,false] (by kernel_rfl) rfl rfl ⟨hx715_0,hx716_0⟩ (fun hHeld => ?_);refine with_tabW spec_OrdMost.tab8 spec_OrdMost.bits8 (fun HT_ HW_ => ?_)
       generalize wr.drew = w14 at HO_3 HO_4 HB HL716_0 HR716_0 hx715_0 hx716_0 hHeld ⊢
       refine pure_ (i := 0) (N := some 21) (v := ?_) (a' := ?_) #[true,false,false,false,false,false,false,false,false,false,false,false,false] rfl rfl (any_of HT_.out (by kernel_rfl)) (fun _ _ _ h => h) (Or.inl ⟨by rfl,?_⟩) ?_ ?_
       rotate_left
       ·intro w'
        go_simp
        with_reducible rfl
       rotate_left
       ·simp only [Act.put,List.setIfInBounds_toArray,List.set_cons_zero,List.set_cons_succ,i64_w,i32_w]
        rfl
       refine pure_ (i := 1) (N := some 22) (v := ?_) (a' := ?_) #[true,true,false,false,false,false,false,false,false,false,false,false,false] rfl rfl (any_of HT_.out (by kernel_rfl)) (fun _ _ _ h => h) (Or.inl ⟨by rfl,?_⟩) ?_ ?_
       rotate_left
       ·intro w'
        go_simp
        with_reducible rfl
       rotate_left
       ·simp only [Act.put,List.setIfInBounds_toArray,List.set_cons_zero,List.set_cons_succ,i64_w,i32_w]
        rfl
       refine pure_ (i := 2) (N := some 23) (v := ?_) (a' := ?_) #[true,true,true,false,false,false,false,false,false,false,false,false,false] rfl rfl (any_of HT_.out (by kernel_rfl)) (fun _ _ _ h => h) (Or.inl ⟨by rfl,?_⟩) ?_ ?_
       rotate_left
       ·intro w'
        go_simp
        with_reducible rfl
       rotate_left
       ·simp only [Act.put,List.setIfInBounds_toArray,List.set_cons_zero,List.set_cons_succ,i64_w,i32_w]
        rfl
       refine pure_ (i := 3) (N := some 24) (v := ?_) (a' := ?_) #[true,true,true,true,false,false,false,false,false,false,false,false,false] rfl rfl (any_of HT_.out (by kernel_rfl)) (fun _ _ _ h => h) (Or.inl ⟨by rfl,?_⟩) ?_ ?_
       rotate_left
       ·intro w'
        go_simp
        with_reducible rfl
       rotate_left
       ·simp only [Act.put,List.setIfInBounds_toArray,List.set_cons_zero,List.set_cons_succ,i64_w,i32_w]
        rfl
       refine pure_ (i := 5) (N := some 26) (v := ?_) (a' := ?_) #[true,true,true,true,false,true,false,false,false,false,false,false,false] rfl rfl (any_of HT_.out (by kernel_rfl)) (fun _ _ _ h => h) (Or.inl ⟨by rfl,?_⟩) ?_ ?_
       rotate_left
       ·intro w'
        go_simp
        with_reducible rfl
       rotate_left
       ·simp only [Act.put,List.setIfInBounds_toArray,List.set_cons_zero,List.set_cons_succ,i64_w,i32_w]
        rfl
       refine pure_ (i := 6) (N := some 27) (v := ?_) (a' := ?_) #[true,true,true,true,false,true,true,false,false,false,false,false,false] rfl rfl (any_of HT_.out (by kernel_rfl)) (fun _ _ _ h => h) (Or.inl ⟨by rfl,?_⟩) ?_ ?_
       rotate_left
       ·intro w'
        go_simp
        with_reducible rfl
       rotate_left
       ·simp only [Act.put,List.setIfInBounds_toArray,List.set_cons_zero,List.set_cons_succ,i64_w,i32_w]
        rfl
       refine pure_ (i := 7) (N := some 28) (v := ?_) (a' := ?_) #[true,true,true,true,false,true,true,true,false,false,false,false,false] rfl rfl (any_of HT_.out (by kernel_rfl)) (fun _ _ _ h => h) (Or.inl ⟨by rfl,?_⟩) ?_ ?_
       rotate_left
       ·intro w'
        go_simp
        with_reducible rfl
       rotate_left
       ·simp only [Act.put,List.setIfInBounds_toArray,List.set_cons_zero,List.set_cons_succ,i64_w,i32_w]
        rfl
       refine take_ (i := 4) (N := some 25) (v := ?_) (a' := ?_) #[true,true,true,true,true,true,true,true,false,false,false,false,false] rfl rfl (take_ofW HT_.out HW_.out (by kernel_rfl)) (fun _ _ _ h => h) (Or.inl ⟨by rfl,?_⟩) hHeld ?_ ?_
       rotate_left
       ·rintro w' ⟨s0,s1⟩
        go_simp
        with_reducible rfl
       rotate_left
       ·simp only [Act.put,List.setIfInBounds_toArray,List.set_cons_zero,List.set_cons_succ,i64_w,i32_w]
        rfl
       refine take_ (i := 8) (N := some 29) (v := ?_) (a' := ?_) #[true,true,true,true,true,true,true,true,true,false,false,false,false] rfl rfl (take_ofW HT_.out HW_.out (by kernel_rfl)) (fun _ _ _ h => h) (Or.inl ⟨by rfl,?_⟩) hHeld ?_ ?_
       rotate_left
       ·rintro w' ⟨s0,s1⟩
        go_simp
        with_reducible rfl
       rotate_left
       ·simp only [Act.put,List.setIfInBounds_toArray,List.set_cons_zero,List.set_cons_succ,i64_w,i32_w]
        rfl
       refine one_ (i := 9) (N := some 30) #[true,true,true,true,true,true,true,true,true,true,false,false,false] rfl rfl (one_of HT_.out (by kernel_rfl)) (by decide) (fun K hK => ?_)
       refine goes_ Try.func35 (by kernel_rfl) rfl #[.slice A716_0 (rd_L3 t712 x6_1).length c716_0] (by rfl) rfl rfl az ?_
       with_reducible refine (ih k1 (by have := HK1.out;omega) _ _ (rd_L3 t712 x6_1) t717 _ ?side1 ?side2 A10.out).mono ?_
       (case side1 => repeat (first|exact (by repeat (first|(with_reducible exact HR716_0.out)|(with_reducible refine Kd.C_alloc ?_ _)|(with_reducible refine Kd.C_drewN ?_ _)|(with_reducible refine Kd.C_drew ?_)|exact HR716_0.out))|(with_reducible refine Kd.C_alloc ?_ _)|(with_reducible refine Kd.C_drewN ?_ _)|(with_reducible refine Kd.C_drew ?_)))
       (case side2 => exact HC716_0.out)
       rintro e w16 ⟨rfl,hb⟩
       have HS0_ := (hb.cell (World.block_lt_of_cell? _ _ (hHeld.1))).trans (hHeld.1)
       have HS1_ := (hb.cell (World.block_lt_of_cell? _ _ (hHeld.2))).trans (hHeld.2)
       refine ⟨_,rfl,?_⟩
       have n0_ := Aside0.mk (Kd.R_below (Kd.Rz HO_3.out) hb)
       have n1_ := Aside0.mk (Kd.N_below (Kd.Nz HO_4.out) hb)
       have n2_ := Aside0.mk (Kd.V_below (Kd.Vz HL716_0.out) hb)
       have n3_ := Aside0.mk (Kd.C_below (by repeat (first|(with_reducible exact HR716_0.out)|(with_reducible refine Kd.C_alloc ?_ _)|(with_reducible refine Kd.C_drewN ?_ _)|(with_reducible refine Kd.C_drew ?_)|exact HR716_0.out)) hb)
       have n4_ := Aside0.mk (below_step bz hb)
       clear HO_3
       clear HO_4
       clear HL716_0
       clear HR716_0
       clear HB
       have HO_3 := n0_
       have HO_4 := n1_
       have HL716_0 := n2_
       have HR716_0 := n3_
       have HB := n4_
       clear n0_ n1_ n2_ n3_ n4_
       (try clear hb)
       (try clear hb2)
       (try clear hk)
       (try clear hi)
       refine hK.out _ _ ⟨HS0_,HS1_⟩ (fun hHeld => ?_)
       clear hK K
       refine norm_ (a' := ?_) ?_ ?_
       rotate_left
       ·show Act.put _ (some 30) _ = _
        simp only [Act.put,List.setIfInBounds_toArray,List.set_cons_zero,List.set_cons_succ,i64_w,i32_w]
        rfl
       refine pure_ (i := 10) (N := some 31) (v := ?_) (a' := ?_) #[true,true,true,true,true,true,true,true,true,true,true,false,false] rfl rfl (any_of HT_.out (by kernel_rfl)) (fun _ _ _ h => h) (Or.inl ⟨by rfl,?_⟩) ?_ ?_
       rotate_left
       ·intro w'
        go_simp
        with_reducible rfl
       rotate_left
       ·simp only [Act.put,List.setIfInBounds_toArray,List.set_cons_zero,List.set_cons_succ,i64_w,i32_w]
        rfl
       refine pure_ (i := 11) (N := some 32) (v := ?_) (a' := ?_) #[true,true,true,true,true,true,true,true,true,true,true,true,false] rfl rfl (any_of HT_.out (by kernel_rfl)) (fun _ _ _ h => h) (Or.inl ⟨by rfl,?_⟩) ?_ ?_
       rotate_left
       ·intro w'
        go_simp
        with_reducible rfl
       rotate_left
       ·simp only [Act.put,List.setIfInBounds_toArray,List.set_cons_zero,List.set_cons_succ,i64_w,i32_w]
        rfl
       refine pure_ (i := 12) (N := some 5) (v := ?_) (a' := ?_) #[true,true,true,true,true,true,true,true,true,true,true,true,true] rfl rfl (any_of HT_.out (by kernel_rfl)) (fun _ _ _ h => h) (Or.inl ⟨by rfl,?_⟩) ?_ ?_
       rotate_left
       ·intro w'
        go_simp
        with_reducible rfl
       rotate_left
       ·simp only [Act.put,List.setIfInBounds_toArray,List.set_cons_zero,List.set_cons_succ,i64_w,i32_w]
        rfl
       refine done_ (done_of HT_.out (by kernel_rfl)) ?_
       try go_wp2
       go_roundg k1
       case measure => have := HK1.out;omega
       case rel => exact ⟨(ji12),(wrap64 (x6_1 + 1)),(by first|rfl|(simp;done)|(simp only [← hji12] <;> (first|rfl|simp))|(simp [*];done)),(by first|rfl|(simp;done)|(simp [*];done)),H',⟨by have := HK1.out;omega⟩,⟨by (with_reducible repeat (first|apply Kd.R_alloc|apply Kd.R_drewN|apply Kd.R_drew));exact HO_3.out⟩,⟨by (with_reducible repeat (first|apply Kd.N_alloc|apply Kd.N_drewN|apply Kd.N_drew));exact HO_4.out⟩,⟨bz⟩⟩
      ·rw [if_neg c9] at H
       exact absurd H (by simp)
     ·rw [if_neg c8] at H
      exact absurd H (by simp)
    ·rw [if_neg c7] at H
     have c7b0 : decide (x6_1 < (t709.length : Int)) = false := decide_eq_false c7
     clear c7
     obtain rfl := Option.some.inj H
     obtain ⟨Ao17,co17,eo17⟩ := Kd.R_slice HO_3.out
     subst eo17
     go_wp2
     go_ret
     exact ⟨by first|rfl|(simp [errW_none,errW_some] <;> rfl)|(simp [*,errW_none,errW_some] <;> rfl),bz⟩
 ·replace c3 := Bool.eq_false_iff.mpr c3
  subst c3
  have H1 : (some (-1)) = some r := by rw [if_neg (show ¬ (false = true) by decide)] at H;exact H
  clear H
  have H := H1
  clear H1
  obtain rfl := Option.some.inj H
  go_enter Try.func35,Try.ntmps35
  go_wp2_with (first|((with_reducible refine gate_callee (f := 24) rfl ?_);refine goesL_ (some 8) rfl rfl Try.func24 (by kernel_rfl) rfl #[.slice A0 l0.length c0] rfl az ?_;(with_reducible refine (spec_OrdValid.calls k _ _ l0 false _ ?side1 ?side2 A2.out).mono ?_);(case side1 => exact Kd.Cz HR0.out);(case side2 => exact HC0.out);rintro e w18 ⟨rfl,hb⟩;refine ⟨_,rfl,?_⟩;have n0_ := Aside0.mk (below_step bz hb);clear HB;have HB := n0_;clear n0_;(try clear hb);(try clear hb2);(try clear hk);(try clear hi)))
  go_ret
  exact ⟨by first|rfl|(simp [errW_none,errW_some] <;> rfl)|(simp [*,errW_none,errW_some] <;> rfl),bz⟩

end Go.Proofs.Ytninfokihgbgpaa.P
