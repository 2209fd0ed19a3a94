/- The walk of one Go function that the law reaches: it comes to what the Lean function of its name tells. -/
import Derived.Test.YtninfokihgbgpaaP0
import Derived.Test.YtninfokihgbgpaaPimplcompare
namespace Go.Proofs.Ytninfokihgbgpaa.P
open Go.RowKit Go.Proofs.YtninfokihgbgpaaW.PrintWords Go.Proofs.YtninfokihgbgpaaW.PrintLast Go.Proofs.YtninfokihgbgpaaW.PrintMore
attribute [local go_sem] max2_int min2_int max_two min_two max_three min_three max_four min_four   
set_option linter.unusedVariables false
set_option linter.unusedSimpArgs false

/-! ### impl_natural: function 71 -/
mutual
def impl_natural.l0 : Nat → List (S56) → List (S56) → List (S56) → Option ((List (S56)))
 | 0,_,_,_ => none
 | k + 1,x0,x1,x5 => if (x0.length : Int) > 0 then (impl_natural.j1 k x0 x1 x5 (decide ((x1.length : Int) > 0))) else (impl_natural.j1 k x0 x1 x5 false)
def impl_natural.j1 : Nat → List (S56) → List (S56) → List (S56) → Bool → Option ((List (S56)))
 | 0,_,_,_,_ => none
 | k + 1,x0,x1,x5,x15 => if x15 = true then (if 0 < (x0.length : Int) then (if 0 < (x1.length : Int) then ((impl_compare.f k ((rd_T56 x0 0).f1) ((rd_T56 x1 0).f1)).bind fun t737 => (if t737 > 0 then (if x5.length < 4398046511104 then (if 1 ≤ (x0.length : Int) then (impl_natural.l0 k (x0.drop 1) x1 (x5 ++ [(⟨(rd_T56 x0 0).f0,(rd_T56 x0 0).f1⟩ : S56)])) else (none)) else (none)) else (if t737 < 0 then (if x5.length < 4398046511104 then (if 1 ≤ (x1.length : Int) then (impl_natural.l0 k x0 (x1.drop 1) (x5 ++ [(⟨(rd_T56 x1 0).f0,(rd_T56 x1 0).f1⟩ : S56)])) else (none)) else (none)) else (if x5.length < 4398046511104 then (if 1 ≤ (x0.length : Int) then (if 1 ≤ (x1.length : Int) then (impl_natural.l0 k (x0.drop 1) (x1.drop 1) (x5 ++ [(⟨wrap64 (((rd_T56 x0 0).f0) + ((rd_T56 x1 0).f0)),(rd_T56 x0 0).f1⟩ : S56)])) else (none)) else (none)) else (none))))) else (none)) else (none)) else (if x5.length + x0.length < 4398046511104 then ((some (x5 ++ x0 : List (S56))).bind fun y729 => (if y729.length + x1.length < 4398046511104 then (some (y729 ++ x1)) else (none))) else (none))
end
def impl_natural.f (k : Nat) (l0 : List (S56)) (l1 : List (S56)) : Option ((List (S56))) := impl_natural.l0 k l0 l1 (([] : List (S56)))
theorem impl_natural.mono_l : ∀ k,(∀ y0 y1 y2,LeO (impl_natural.l0 k y0 y1 y2) (impl_natural.l0 (k + 1) y0 y1 y2)) ∧ (∀ y0 y1 y2 y3,LeO (impl_natural.j1 k y0 y1 y2 y3) (impl_natural.j1 (k + 1) y0 y1 y2 y3))
 | 0 => ⟨fun _ _ _ r h => by simp [impl_natural.l0] at h,fun _ _ _ _ r h => by simp [impl_natural.j1] at h⟩
 | k + 1 => by
  obtain ⟨ih0,ih1⟩ := impl_natural.mono_l k
  refine ⟨?_,?_⟩
  ·intro y0 y1 y2
   unfold impl_natural.l0
   repeat' first|(with_reducible first|exact ih0 _ _ _|exact ih1 _ _ _ _|exact LeO.refl _|exact LeO.none _|refine LeO.ite ?_ ?_|refine LeO.bind ?_ (fun _ => ?_))|exact ih0 _ _ _|exact ih1 _ _ _ _|exact LeO.none _|refine LeO.ite ?_ ?_|refine LeO.bind ?_ (fun _ => ?_)
  ·intro y0 y1 y2 y3
   unfold impl_natural.j1
   repeat' first|(with_reducible first|exact ih0 _ _ _|exact ih1 _ _ _ _|exact impl_compare.mono _ _ _|exact LeO.refl _|exact LeO.none _|refine LeO.ite ?_ ?_|refine LeO.bind ?_ (fun _ => ?_))|exact ih0 _ _ _|exact ih1 _ _ _ _|exact impl_compare.mono _ _ _|exact LeO.none _|refine LeO.ite ?_ ?_|refine LeO.bind ?_ (fun _ => ?_)
theorem impl_natural.mono : ∀ a0 a1 k,LeO (impl_natural.f k a0 a1) (impl_natural.f (k + 1) a0 a1) := by
 intro a0 a1 k
 obtain ⟨ih0,ih1⟩ := impl_natural.mono_l k
 unfold impl_natural.f
 repeat' first|(with_reducible first|exact ih0 _ _ _|exact ih1 _ _ _ _|exact LeO.refl _|exact LeO.none _|refine LeO.ite ?_ ?_|refine LeO.bind ?_ (fun _ => ?_))|exact ih0 _ _ _|exact ih1 _ _ _ _|exact LeO.none _|refine LeO.ite ?_ ?_|refine LeO.bind ?_ (fun _ => ?_)
def impl_natural.T3 : Bool × List (List Nat × List Nat) := (true,[([],[]),([0],[0]),([1],[1]),([2],[2]),([],[]),([4],[4]),([5],[5]),([6],[6]),([3,7],[3,7]),([8,8,0,1,2,3,4,5,6,7,8],[8])])
def impl_natural.B3 : List Nat := [0,1,3,7,0,16,48,112,255,511]
theorem impl_natural.tab3 : rtab .any (opsOf Try.f71 3) = impl_natural.T3 := by kernel_rfl
theorem impl_natural.bits3 : waitsOk impl_natural.T3.2 impl_natural.B3 = true := by kernel_rfl
def impl_natural.T4 : Bool × List (List Nat × List Nat) := (true,[([],[]),([],[]),([1],[1]),([2],[2]),([3],[3]),([],[]),([5],[5]),([6],[6]),([7],[7]),([4,8],[4,8]),([],[]),([10],[10]),([11],[11]),([12],[12]),([9,13],[9,13]),([14],[14]),([0,15],[0,15]),([16,16,0,1,2,3,4,5,6,7,8,9,10,11,12,13,14,15,16],[0,16])])
def impl_natural.B4 : List Nat := [0,0,2,6,14,0,32,96,224,510,0,1024,3072,7168,16382,32766,65535,131071]
theorem impl_natural.tab4 : rtab .any (opsOf Try.f71 4) = impl_natural.T4 := by kernel_rfl
theorem impl_natural.bits4 : waitsOk impl_natural.T4.2 impl_natural.B4 = true := by kernel_rfl
set_option maxHeartbeats 8000000 in
set_option maxRecDepth 100000 in
theorem impl_natural.calls (k : Nat) (P0_ : Nat → Prop) (A0 : Option Addr) (c0 : Nat) (l0 : List (S56)) (P1_ : Nat → Prop) (A1 : Option Addr) (c1 : Nat) (l1 : List (S56)) (r : List (S56)) (w : World) (hs0 : Kd.V k56 56 w w.heap.size (fun k_ => P0_ k_) (.slice A0 l0.length c0) l0) (hs1 : Kd.V k56 56 w w.heap.size (fun k_ => P1_ k_) (.slice A1 l1.length c1) l1) (h : impl_natural.f k l0 l1 = some r) :
  Calls Try.prog 71 #[.slice A0 l0.length c0,.slice A1 l1.length c1] w fun e w' => ∃ v0_ : Value,e = .returned (v0_) ∧ Kd.N k56 56 w' w.heap.size (fun k_ => ((P0_ k_ ∨ P1_ k_) ∨ w.heap.size ≤ k_)) v0_ r ∧ Below w.heap.size w w' := by
 have hu56 := Try.underlying56
 have HO0 := Aside0.mk (show Kd.V k56 56 w w.heap.size (fun k_ => ((P0_ k_ ∨ P1_ k_) ∨ w.heap.size ≤ k_)) (.slice A0 l0.length c0) l0 from Kd.V_mono hs0 (fun k_ hk => .inl (.inl hk)))
 have HO1 := Aside0.mk (show Kd.V k56 56 w w.heap.size (fun k_ => ((P0_ k_ ∨ P1_ k_) ∨ w.heap.size ≤ k_)) (.slice A1 l1.length c1) l1 from Kd.V_mono hs1 (fun k_ hk => .inl (.inr hk)))
 have HB := Aside0.mk (Below.refl w.heap.size w)
 have H : (impl_natural.l0 k l0 l1 (([] : List (S56)))) = some r := h
 clear h
 obtain ⟨y726,hy726⟩ : ∃ y_ : List (S56),y_ = (([] : List (S56))) := ⟨_,rfl⟩
 replace H : (impl_natural.l0 k l0 l1 y726) = some r := by first|(rw [hy726];with_reducible exact H)|(have H2_ := (Option.bind_some _ _).symm.trans H;rw [hy726];with_reducible exact H2_)|(have H2_ := (Option.bind_some _ _).symm.trans H;with_reducible exact H2_)|with_reducible exact H|(rw [hy726];exact H)|exact H
 have Ny726 := Aside0.mk hy726
 clear hy726
 have H' := Aside0.mk H
 clear H
 go_enter Try.func71,Try.ntmps71
 go_wp2_with (first|((with_reducible refine gate_dst (N := 7) rfl ?_);refine Kd.N_lit k56 _ 56 ?hg (N' := 7) ?hd (xs := ([] : List (S56))) (inner := []) (ok := (fun k_ => ((P0_ k_ ∨ P1_ k_) ∨ w.heap.size ≤ k_))) (okp := (fun k_ => ((P0_ k_ ∨ P1_ k_) ∨ w.heap.size ≤ k_))) ?hr ?hp (fun _ hk => hk) ((show ∀ k_,w.heap.size ≤ k_ → (fun k_ => ((P0_ k_ ∨ P1_ k_) ∨ w.heap.size ≤ k_)) k_ from fun k_ hk => (.inr (Nat.le_trans (below_size bz) hk))) _ (Nat.le_refl _)) (Below.refl _ _) (Nat.le_refl _) (by simp) ?_;(case hd => rfl);(case hg => rfl);(case hr => first|(go_simp;done)|(go_simp;rfl));(case hp => exact (Reps.none _ _));intro v727 w3 ho4 hb hg_ hnew_;clear hg_ hnew_;(first|rw [← Ny726.out] at ho4|(simp only [Int.reduceToNat] at ho4;rw [← Ny726.out] at ho4));have n0_ := Aside0.mk (Kd.V_elder' (Kd.Vz HO0.out) (Kd.N_base ho4) hb);have n1_ := Aside0.mk (Kd.V_elder' (Kd.Vz HO1.out) (Kd.N_base ho4) hb);have n2_ := Aside0.mk (Kd.N_lower ho4 (below_size bz));have n3_ := Aside0.mk (below_step bz hb);clear HO0;clear HO1;clear HB;have HO0 := n0_;have HO1 := n1_;have HO728 := n2_;have HB := n3_;clear n0_ n1_ n2_ n3_;clear hb ho4))
 go_loopg [0,1,5] k (fun kq v0 v1 v5 w' => ∃ (x0_1 : List (S56)) (x1_1 : List (S56)) (x5_1 : List (S56)),Aside0 (impl_natural.l0 kq x0_1 x1_1 x5_1 = some r) ∧ Aside0 (kq ≤ k) ∧ Aside0 (Kd.V k56 56 w' w.heap.size (fun k_ => ((P0_ k_ ∨ P1_ k_) ∨ w.heap.size ≤ k_) ∧ some k_ ≠ (v5 : Value).ownBlock) v0 x0_1) ∧ Aside0 (Kd.V k56 56 w' w.heap.size (fun k_ => ((P0_ k_ ∨ P1_ k_) ∨ w.heap.size ≤ k_) ∧ some k_ ≠ (v5 : Value).ownBlock) v1 x1_1) ∧ Aside0 (Kd.N k56 56 w' w.heap.size (fun k_ => ((P0_ k_ ∨ P1_ k_) ∨ w.heap.size ≤ k_)) v5 x5_1) ∧ Aside0 (Below w.heap.size w w'))
 case atStart => exact ⟨(l0),(l1),(y726),H',⟨Nat.le_refl _⟩,⟨by (with_reducible repeat (first|apply Kd.V_alloc|apply Kd.V_drewN|apply Kd.V_drew));exact HO0.out⟩,⟨by (with_reducible repeat (first|apply Kd.V_alloc|apply Kd.V_drewN|apply Kd.V_drew));exact HO1.out⟩,⟨by (with_reducible repeat (first|apply Kd.N_alloc|apply Kd.N_drewN|apply Kd.N_drew));exact HO728.out⟩,⟨bz⟩⟩
 case round =>
  clear H'
  try clear c1
  try clear p2
  obtain ⟨x0_1,x1_1,x5_1,HA,HK1,HO_0,HO_1,HO_5,HB⟩ := hrel
  cases gk with
  | zero => exact absurd HA.out (by simp [impl_natural.l0])
  | succ k1 =>
   have H := HA.out
   clear HA
   simp only [impl_natural.l0] at H
   have HC5 := Aside0.mk H
   clear H
   go_upto_region 2 with (fail)
   go_cut [15] (fun v15 wc => ∃ (kq : Nat) (x15_4 : Bool),v15 = .bool x15_4 ∧ Aside0 (impl_natural.j1 kq x0_1 x1_1 x5_1 x15_4 = some r) ∧ Aside0 (kq ≤ k1) ∧ Aside0 (Kd.V k56 56 wc w.heap.size (fun k_ => ((P0_ k_ ∨ P1_ k_) ∨ w.heap.size ≤ k_) ∧ some k_ ≠ (u5 : Value).ownBlock) u0 x0_1) ∧ Aside0 (Kd.V k56 56 wc w.heap.size (fun k_ => ((P0_ k_ ∨ P1_ k_) ∨ w.heap.size ≤ k_) ∧ some k_ ≠ (u5 : Value).ownBlock) u1 x1_1) ∧ Aside0 (Kd.N k56 56 wc w.heap.size (fun k_ => ((P0_ k_ ∨ P1_ k_) ∨ w.heap.size ≤ k_)) u5 x5_1) ∧ Aside0 (Below w.heap.size w wc))
   case first =>
    have H := HC5.out
    clear HC5
    by_cases c6 : (x0_1.length : Int) > 0
    ·rw [if_pos c6] at H
     have c6b0 : decide (0 < (x0_1.length : Int)) = true := decide_eq_true c6
     have c6b1 : decide (0 < x0_1.length) = true := decide_eq_true (by omega)
     clear c6
     (first|rw [c6b0]|(simp only [i64_w,i32_w];rw [c6b0])|skip)
     have H' := Aside0.mk H
     clear H
     obtain ⟨Ao7,co7,eo7⟩ := Kd.V_slice HO_0.out
     subst eo7
     obtain ⟨Ao8,co8,eo8⟩ := Kd.V_slice HO_1.out
     subst eo8
     go_wp2
     go_meet
     case rel => exact ⟨_,(decide ((x1_1.length : Int) > 0)),(by first|rfl|(simp;done)|(simp [*];done)),H',⟨by have := HK1.out;first|omega|exact Nat.le_refl _⟩,⟨by (with_reducible repeat (first|apply Kd.V_alloc|apply Kd.V_drewN|apply Kd.V_drew));exact HO_0.out⟩,⟨by (with_reducible repeat (first|apply Kd.V_alloc|apply Kd.V_drewN|apply Kd.V_drew));exact HO_1.out⟩,⟨by (with_reducible repeat (first|apply Kd.N_alloc|apply Kd.N_drewN|apply Kd.N_drew));exact HO_5.out⟩,⟨bz⟩⟩
    ·rw [if_neg c6] at H
     have c6b0 : decide (0 < (x0_1.length : Int)) = false := decide_eq_false c6
     have c6b1 : decide (0 < x0_1.length) = false := decide_eq_false (by omega)
     clear c6
     (first|rw [c6b0]|(simp only [i64_w,i32_w];rw [c6b0])|skip)
     have H' := Aside0.mk H
     clear H
     obtain ⟨Ao9,co9,eo9⟩ := Kd.V_slice HO_0.out
     subst eo9
     go_wp2
     go_meet
     case rel => exact ⟨_,(false),(by first|rfl|(simp;done)|(simp [*];done)),H',⟨by have := HK1.out;first|omega|exact Nat.le_refl _⟩,⟨by (with_reducible repeat (first|apply Kd.V_alloc|apply Kd.V_drewN|apply Kd.V_drew));exact HO_0.out⟩,⟨by (with_reducible repeat (first|apply Kd.V_alloc|apply Kd.V_drewN|apply Kd.V_drew));exact HO_1.out⟩,⟨by (with_reducible repeat (first|apply Kd.N_alloc|apply Kd.N_drewN|apply Kd.N_drew));exact HO_5.out⟩,⟨bz⟩⟩
   case rest =>
    clear HC5
    try clear c1
    try clear p2
    try clear c6
    try clear c6b0
    try clear c6b1
    try clear c7
    try clear p2
    obtain ⟨kq,x15_4,rfl,HA,HJ4,HO_0,HO_1,HO_5,HB⟩ := hcut
    cases kq with
    | zero => exact absurd HA.out (by simp [impl_natural.j1])
    | succ kj4 =>
     have H := HA.out
     clear HA
     simp only [impl_natural.j1] at H
     by_cases c10 : x15_4 = true
     ·subst c10
      have H1 : (if 0 < (x0_1.length : Int) then (if 0 < (x1_1.length : Int) then ((impl_compare.f kj4 ((rd_T56 x0_1 0).f1) ((rd_T56 x1_1 0).f1)).bind fun t737 => (if t737 > 0 then (if x5_1.length < 4398046511104 then (if 1 ≤ (x0_1.length : Int) then (impl_natural.l0 kj4 (x0_1.drop 1) x1_1 (x5_1 ++ [(⟨(rd_T56 x0_1 0).f0,(rd_T56 x0_1 0).f1⟩ : S56)])) else (none)) else (none)) else (if t737 < 0 then (if x5_1.length < 4398046511104 then (if 1 ≤ (x1_1.length : Int) then (impl_natural.l0 kj4 x0_1 (x1_1.drop 1) (x5_1 ++ [(⟨(rd_T56 x1_1 0).f0,(rd_T56 x1_1 0).f1⟩ : S56)])) else (none)) else (none)) else (if x5_1.length < 4398046511104 then (if 1 ≤ (x0_1.length : Int) then (if 1 ≤ (x1_1.length : Int) then (impl_natural.l0 kj4 (x0_1.drop 1) (x1_1.drop 1) (x5_1 ++ [(⟨wrap64 (((rd_T56 x0_1 0).f0) + ((rd_T56 x1_1 0).f0)),(rd_T56 x0_1 0).f1⟩ : S56)])) else (none)) else (none)) else (none))))) else (none)) else (none)) = some r := by rw [if_pos rfl] at H;exact H
      clear H
      have H := H1
      clear H1
      by_cases c11 : 0 < (x0_1.length : Int)
      ·rw [if_pos c11] at H
       have c11b0 : decide (0 < (x0_1.length : Int)) = true := decide_eq_true c11
       have c11b1 : decide (0 < x0_1.length) = true := decide_eq_true (by omega)
       clear c11
       by_cases c12 : 0 < (x1_1.length : Int)
       ·rw [if_pos c12] at H
        have c12b0 : decide (0 < (x1_1.length : Int)) = true := decide_eq_true c12
        have c12b1 : decide (0 < x1_1.length) = true := decide_eq_true (by omega)
        clear c12
        replace H := Option.bind_eq_some_iff.mp H
        obtain ⟨t737,A130,H⟩ := H
        replace H : (if t737 > 0 then (if x5_1.length < 4398046511104 then (if 1 ≤ (x0_1.length : Int) then (impl_natural.l0 kj4 (x0_1.drop 1) x1_1 (x5_1 ++ [(⟨(rd_T56 x0_1 0).f0,(rd_T56 x0_1 0).f1⟩ : S56)])) else (none)) else (none)) else (if t737 < 0 then (if x5_1.length < 4398046511104 then (if 1 ≤ (x1_1.length : Int) then (impl_natural.l0 kj4 x0_1 (x1_1.drop 1) (x5_1 ++ [(⟨(rd_T56 x1_1 0).f0,(rd_T56 x1_1 0).f1⟩ : S56)])) else (none)) else (none)) else (if x5_1.length < 4398046511104 then (if 1 ≤ (x0_1.length : Int) then (if 1 ≤ (x1_1.length : Int) then (impl_natural.l0 kj4 (x0_1.drop 1) (x1_1.drop 1) (x5_1 ++ [(⟨wrap64 (((rd_T56 x0_1 0).f0) + ((rd_T56 x1_1 0).f0)),(rd_T56 x0_1 0).f1⟩ : S56)])) else (none)) else (none)) else (none)))) = some r := H
        have A13 := Aside0.mk A130
        clear A130
        by_cases c14 : t737 > 0
        ·rw [if_pos c14] at H
         have c14b0 : decide (0 < t737) = true := decide_eq_true c14
         clear c14
         by_cases c15 : x5_1.length < 4398046511104
         ·rw [if_pos c15] at H
          have LMc15 := Aside0.mk c15
          clear c15
          obtain ⟨y739,hy739⟩ : ∃ y_ : List (S56),y_ = (x5_1 ++ [(⟨(rd_T56 x0_1 0).f0,(rd_T56 x0_1 0).f1⟩ : S56)]) := ⟨_,rfl⟩
          replace H : (if 1 ≤ (x0_1.length : Int) then (impl_natural.l0 kj4 (x0_1.drop 1) x1_1 y739) else (none)) = some r := by first|(rw [hy739];with_reducible exact H)|(have H2_ := (Option.bind_some _ _).symm.trans H;rw [hy739];with_reducible exact H2_)|(have H2_ := (Option.bind_some _ _).symm.trans H;with_reducible exact H2_)|with_reducible exact H|(rw [hy739];exact H)|exact H
          have Ny739 := Aside0.mk hy739
          clear hy739
          by_cases c16 : 1 ≤ (x0_1.length : Int)
          ·rw [if_pos c16] at H
           have c16b0 := eq_true c16
           have c16b1 : decide (1 ≤ (x0_1.length : Int)) = true := decide_eq_true c16
           clear c16
           obtain ⟨y742,hy742⟩ : ∃ y_ : List (S56),y_ = (x0_1.drop 1) := ⟨_,rfl⟩
           replace H : (impl_natural.l0 kj4 y742 x1_1 y739) = some r := by first|(rw [hy742];with_reducible exact H)|(have H2_ := (Option.bind_some _ _).symm.trans H;rw [hy742];with_reducible exact H2_)|(have H2_ := (Option.bind_some _ _).symm.trans H;with_reducible exact H2_)|with_reducible exact H|(rw [hy742];exact H)|exact H
           have Ny742 := Aside0.mk hy742
           clear hy742
           have H' := Aside0.mk H
           clear H
           try go_wp2
           have n0_ := Aside0.mk (Kd.V_drew HO_0.out)
           have n1_ := Aside0.mk (Kd.V_drew HO_1.out)
           have n2_ := Aside0.mk (Kd.N_drew HO_5.out)
           have n3_ := Aside0.mk (below_drew1 HB.out)
           clear HO_0
           clear HO_1
           clear HO_5
           clear HB
           have HO_0 := n0_
           have HO_1 := n1_
           have HO_5 := n2_
           have HB := n3_
           clear n0_ n1_ n2_ n3_
           obtain ⟨Ao18,co18,eo18⟩ := Kd.V_slice HO_0.out
           (first|subst eo18|(injection eo18 with f1_ f2_ f3_;have f4_ := f1_.symm;have f5_ := f3_.symm;clear f1_ f2_ f3_;subst f4_;subst f5_))
           have p735 : 0 ≤ (0 : Int) := (by omega)
           have q735 : 0 < (x0_1.length : Int) := dz
           obtain ⟨ad735,A735_1,c735_1,e735,hx735_0,hx735_1,hl735_1,hi735_1⟩ := at_T56 (Kd.V_reads' HO_0.out).2.2 0 p735 q735
           cases e735
           obtain ⟨ce735,hce735,hMe735,hcc735⟩ := Kd.V_get HO_0.out z56 0 p735 (by first|exact q735|exact dz|(have e_ := (Kd.V_reads' HO_0.out).1;omega))
           obtain ⟨ua735_1,uc735_1,rfl,ul735_1,ge735_1⟩ := k56_openF hMe735
           have hv735_1 := hcc735 1 _ rfl
           rw [add_field _ _ 1 (by omega)] at hv735_1
           replace hv735_1 := Option.some.inj (hv735_1.symm.trans hx735_1)
           injection hv735_1 with hva_ hvn_ hvc_
           rw [hva_] at ge735_1
           rw [hvc_] at ul735_1
           have HL735_1 := Aside0.mk (show Kd.V k56 56 _ w.heap.size _ _ ((rd_T56 x0_1 0).f1) from Kd.V_mk ul735_1 ge735_1)
           clear hva_ hvn_ hvc_ ge735_1 ul735_1
           clear hcc735 hce735
           have qi735 : (0 < x0_1.length) = True := eq_true (by omega)
           (try rw [show ((0 : Int)).toNat = 0 from rfl] at hx735_0)
           (try rw [show 0 * 2 = 0 from rfl] at hx735_0)
           (try rw [Addr.add_zero'] at hx735_0)
           (try rw [show ((0 : Int)).toNat = 0 from rfl] at hx735_1)
           (try rw [show 0 * 2 = 0 from rfl] at hx735_1)
           (try rw [Addr.add_zero'] at hx735_1)
           have HR735_1 := Aside0.mk hi735_1
           have HC735_1 := Aside0.mk hl735_1
           clear hi735_1 hl735_1
           replace p735 := eq_true p735
           replace q735 := eq_true q735
           obtain ⟨Ao19,co19,eo19⟩ := Kd.V_slice HO_1.out
           (first|subst eo19|(injection eo19 with f1_ f2_ f3_;have f4_ := f1_.symm;have f5_ := f3_.symm;clear f1_ f2_ f3_;subst f4_;subst f5_))
           have p736 : 0 ≤ (0 : Int) := (by omega)
           have q736 : 0 < (x1_1.length : Int) := dz
           obtain ⟨ad736,A736_1,c736_1,e736,hx736_0,hx736_1,hl736_1,hi736_1⟩ := at_T56 (Kd.V_reads' HO_1.out).2.2 0 p736 q736
           cases e736
           obtain ⟨ce736,hce736,hMe736,hcc736⟩ := Kd.V_get HO_1.out z56 0 p736 (by first|exact q736|exact dz|(have e_ := (Kd.V_reads' HO_1.out).1;omega))
           obtain ⟨ua736_1,uc736_1,rfl,ul736_1,ge736_1⟩ := k56_openF hMe736
           have hv736_1 := hcc736 1 _ rfl
           rw [add_field _ _ 1 (by omega)] at hv736_1
           replace hv736_1 := Option.some.inj (hv736_1.symm.trans hx736_1)
           injection hv736_1 with hva_ hvn_ hvc_
           rw [hva_] at ge736_1
           rw [hvc_] at ul736_1
           have HL736_1 := Aside0.mk (show Kd.V k56 56 _ w.heap.size _ _ ((rd_T56 x1_1 0).f1) from Kd.V_mk ul736_1 ge736_1)
           clear hva_ hvn_ hvc_ ge736_1 ul736_1
           clear hcc736 hce736
           have qi736 : (0 < x1_1.length) = True := eq_true (by omega)
           (try rw [show ((0 : Int)).toNat = 0 from rfl] at hx736_0)
           (try rw [show 0 * 2 = 0 from rfl] at hx736_0)
           (try rw [Addr.add_zero'] at hx736_0)
           (try rw [show ((0 : Int)).toNat = 0 from rfl] at hx736_1)
           (try rw [show 0 * 2 = 0 from rfl] at hx736_1)
           (try rw [Addr.add_zero'] at hx736_1)
           have HR736_1 := Aside0.mk hi736_1
           have HC736_1 := Aside0.mk hl736_1
           clear hi736_1 hl736_1
           replace p736 := eq_true p736
           replace q736 := eq_true q736
           refine start_ (n := 10) (S := fun w' => w'.cell? ad735 = some (.int .i64 ((rd_T56 x0_1 0).f0)) ∧ w'.cell? ⟨ad735.block,ad735.off + 1,none⟩ = some (.slice A735_1 ((rd_T56 x0_1 0).f1).length c735_1) ∧ w'.cell? ad736 = some (.int .i64 ((rd_T56 x1_1 0).f0)) ∧ w'.cell? ⟨ad736.block,ad736.off + 1,none⟩ = some (.slice A736_1 ((rd_T56 x1_1 0).f1).length c736_1)) (ds := []) #[false,false,false,false,false,false,false,false,false,false] (by kernel_rfl) rfl rfl ⟨hx735_0,hx735_1,hx736_0,hx736_1⟩ (fun hHeld => ?_);refine with_tabW impl_natural.tab3 impl_natural.bits3 (fun HT_ HW_ => ?_)
           generalize wc.drew = w17 at HO_0 HO_1 HO_5 HB HL735_1 HL736_1 HR735_1 HR736_1 hx735_0 hx735_1 hx736_0 hx736_1 hHeld ⊢
           refine pure_ (i := 0) (N := some 16) (v := ?_) (a' := ?_) #[true,false,false,false,false,false,false,false,false,false] rfl rfl (any_of HT_.out (by kernel_rfl)) (fun _ _ _ h => h) (Or.inl ⟨by rfl,?_⟩) ?_ ?_
           rotate_left
           ·intro w'
            go_simp
            with_reducible rfl
           rotate_left
           ·simp only [Act.put,List.setIfInBounds_toArray,List.set_cons_zero,List.set_cons_succ,i64_w,i32_w]
            rfl
           refine pure_ (i := 1) (N := some 17) (v := ?_) (a' := ?_) #[true,true,false,false,false,false,false,false,false,false] rfl rfl (any_of HT_.out (by kernel_rfl)) (fun _ _ _ h => h) (Or.inl ⟨by rfl,?_⟩) ?_ ?_
           rotate_left
           ·intro w'
            go_simp
            with_reducible rfl
           rotate_left
           ·simp only [Act.put,List.setIfInBounds_toArray,List.set_cons_zero,List.set_cons_succ,i64_w,i32_w]
            rfl
           refine pure_ (i := 2) (N := some 18) (v := ?_) (a' := ?_) #[true,true,true,false,false,false,false,false,false,false] rfl rfl (any_of HT_.out (by kernel_rfl)) (fun _ _ _ h => h) (Or.inl ⟨by rfl,?_⟩) ?_ ?_
           rotate_left
           ·intro w'
            go_simp
            with_reducible rfl
           rotate_left
           ·simp only [Act.put,List.setIfInBounds_toArray,List.set_cons_zero,List.set_cons_succ,i64_w,i32_w]
            rfl
           refine pure_ (i := 4) (N := some 20) (v := ?_) (a' := ?_) #[true,true,true,false,true,false,false,false,false,false] rfl rfl (any_of HT_.out (by kernel_rfl)) (fun _ _ _ h => h) (Or.inl ⟨by rfl,?_⟩) ?_ ?_
           rotate_left
           ·intro w'
            go_simp
            with_reducible rfl
           rotate_left
           ·simp only [Act.put,List.setIfInBounds_toArray,List.set_cons_zero,List.set_cons_succ,i64_w,i32_w]
            rfl
           refine pure_ (i := 5) (N := some 21) (v := ?_) (a' := ?_) #[true,true,true,false,true,true,false,false,false,false] rfl rfl (any_of HT_.out (by kernel_rfl)) (fun _ _ _ h => h) (Or.inl ⟨by rfl,?_⟩) ?_ ?_
           rotate_left
           ·intro w'
            go_simp
            with_reducible rfl
           rotate_left
           ·simp only [Act.put,List.setIfInBounds_toArray,List.set_cons_zero,List.set_cons_succ,i64_w,i32_w]
            rfl
           refine pure_ (i := 6) (N := some 22) (v := ?_) (a' := ?_) #[true,true,true,false,true,true,true,false,false,false] rfl rfl (any_of HT_.out (by kernel_rfl)) (fun _ _ _ h => h) (Or.inl ⟨by rfl,?_⟩) ?_ ?_
           rotate_left
           ·intro w'
            go_simp
            with_reducible rfl
           rotate_left
           ·simp only [Act.put,List.setIfInBounds_toArray,List.set_cons_zero,List.set_cons_succ,i64_w,i32_w]
            rfl
           refine take_ (i := 3) (N := some 19) (v := ?_) (a' := ?_) #[true,true,true,true,true,true,true,false,false,false] rfl rfl (take_ofW HT_.out HW_.out (by kernel_rfl)) (fun _ _ _ h => h) (Or.inl ⟨by rfl,?_⟩) hHeld ?_ ?_
           rotate_left
           ·rintro w' ⟨s0,s1,s2,s3⟩
            go_simp
            with_reducible rfl
           rotate_left
           ·simp only [Act.put,List.setIfInBounds_toArray,List.set_cons_zero,List.set_cons_succ,i64_w,i32_w]
            rfl
           refine take_ (i := 7) (N := some 23) (v := ?_) (a' := ?_) #[true,true,true,true,true,true,true,true,false,false] rfl rfl (take_ofW HT_.out HW_.out (by kernel_rfl)) (fun _ _ _ h => h) (Or.inl ⟨by rfl,?_⟩) hHeld ?_ ?_
           rotate_left
           ·rintro w' ⟨s0,s1,s2,s3⟩
            go_simp
            with_reducible rfl
           rotate_left
           ·simp only [Act.put,List.setIfInBounds_toArray,List.set_cons_zero,List.set_cons_succ,i64_w,i32_w]
            rfl
           refine one_ (i := 8) (N := some 24) #[true,true,true,true,true,true,true,true,true,false] rfl rfl (one_of HT_.out (by kernel_rfl)) (by decide) (fun K hK => ?_)
           refine goes_ Try.func66 (by kernel_rfl) rfl #[.slice A735_1 ((rd_T56 x0_1 0).f1).length c735_1,.slice A736_1 ((rd_T56 x1_1 0).f1).length c736_1] (by rfl) rfl rfl az ?_
           with_reducible refine (impl_compare.calls kj4 _ _ ((rd_T56 x0_1 0).f1) _ _ ((rd_T56 x1_1 0).f1) t737 _ ?side1 ?side2 ?side3 ?side4 A13.out).mono ?_
           (case side1 => repeat (first|exact (by repeat (first|(with_reducible exact HR735_1.out)|(with_reducible refine Kd.C_alloc ?_ _)|(with_reducible refine Kd.C_drewN ?_ _)|(with_reducible refine Kd.C_drew ?_)|exact HR735_1.out))|(with_reducible refine Kd.C_alloc ?_ _)|(with_reducible refine Kd.C_drewN ?_ _)|(with_reducible refine Kd.C_drew ?_)))
           (case side2 => exact HC735_1.out)
           (case side3 => repeat (first|exact (by repeat (first|(with_reducible exact HR736_1.out)|(with_reducible refine Kd.C_alloc ?_ _)|(with_reducible refine Kd.C_drewN ?_ _)|(with_reducible refine Kd.C_drew ?_)|exact HR736_1.out))|(with_reducible refine Kd.C_alloc ?_ _)|(with_reducible refine Kd.C_drewN ?_ _)|(with_reducible refine Kd.C_drew ?_)))
           (case side4 => exact HC736_1.out)
           rintro e w20 ⟨rfl,hb⟩
           have HS0_ := (hb.cell (World.block_lt_of_cell? _ _ (hHeld.1))).trans (hHeld.1)
           have HS1_ := (hb.cell (World.block_lt_of_cell? _ _ (hHeld.2.1))).trans (hHeld.2.1)
           have HS2_ := (hb.cell (World.block_lt_of_cell? _ _ (hHeld.2.2.1))).trans (hHeld.2.2.1)
           have HS3_ := (hb.cell (World.block_lt_of_cell? _ _ (hHeld.2.2.2))).trans (hHeld.2.2.2)
           refine ⟨_,rfl,?_⟩
           have n0_ := Aside0.mk (Kd.V_below (Kd.Vz HO_0.out) hb)
           have n1_ := Aside0.mk (Kd.V_below (Kd.Vz HO_1.out) hb)
           have n2_ := Aside0.mk (Kd.N_below (Kd.Nz HO_5.out) hb)
           have n3_ := Aside0.mk (Kd.V_below (Kd.Vz HL735_1.out) hb)
           have n4_ := Aside0.mk (Kd.V_below (Kd.Vz HL736_1.out) hb)
           have n5_ := Aside0.mk (Kd.C_below (by repeat (first|(with_reducible exact HR735_1.out)|(with_reducible refine Kd.C_alloc ?_ _)|(with_reducible refine Kd.C_drewN ?_ _)|(with_reducible refine Kd.C_drew ?_)|exact HR735_1.out)) hb)
           have n6_ := Aside0.mk (Kd.C_below (by repeat (first|(with_reducible exact HR736_1.out)|(with_reducible refine Kd.C_alloc ?_ _)|(with_reducible refine Kd.C_drewN ?_ _)|(with_reducible refine Kd.C_drew ?_)|exact HR736_1.out)) hb)
           have n7_ := Aside0.mk (below_step bz hb)
           clear HO_0
           clear HO_1
           clear HO_5
           clear HL735_1
           clear HL736_1
           clear HR735_1
           clear HR736_1
           clear HB
           have HO_0 := n0_
           have HO_1 := n1_
           have HO_5 := n2_
           have HL735_1 := n3_
           have HL736_1 := n4_
           have HR735_1 := n5_
           have HR736_1 := n6_
           have HB := n7_
           clear n0_ n1_ n2_ n3_ n4_ n5_ n6_ n7_
           (try clear hb)
           (try clear hb2)
           (try clear hk)
           (try clear hi)
           refine hK.out _ _ ⟨HS0_,HS1_,HS2_,HS3_⟩ (fun hHeld => ?_)
           clear hK K
           refine norm_ (a' := ?_) ?_ ?_
           rotate_left
           ·show Act.put _ (some 24) _ = _
            simp only [Act.put,List.setIfInBounds_toArray,List.set_cons_zero,List.set_cons_succ,i64_w,i32_w]
            rfl
           refine pure_ (i := 9) (N := some 6) (v := ?_) (a' := ?_) #[true,true,true,true,true,true,true,true,true,true] rfl rfl (any_of HT_.out (by kernel_rfl)) (fun _ _ _ h => h) (Or.inl ⟨by rfl,?_⟩) ?_ ?_
           rotate_left
           ·intro w'
            go_simp
            with_reducible rfl
           rotate_left
           ·simp only [Act.put,List.setIfInBounds_toArray,List.set_cons_zero,List.set_cons_succ,i64_w,i32_w]
            rfl
           refine done_ (done_of HT_.out (by kernel_rfl)) ?_
           have p738 : 0 ≤ (0 : Int) := (by omega)
           have q738 : 0 < (x0_1.length : Int) := dz
           obtain ⟨ad738,A738_1,c738_1,e738,hx738_0,hx738_1,hl738_1,hi738_1⟩ := at_T56 (Kd.V_reads' HO_0.out).2.2 0 p738 q738
           obtain rfl : ad735 = ad738 := (by injection e738)
           obtain ⟨ce738,hce738,hMe738,hcc738⟩ := Kd.V_get HO_0.out z56 0 p738 (by first|exact q738|exact dz|(have e_ := (Kd.V_reads' HO_0.out).1;omega))
           obtain ⟨ua738_1,uc738_1,rfl,ul738_1,ge738_1⟩ := k56_openF hMe738
           have hv738_1 := hcc738 1 _ rfl
           rw [add_field _ _ 1 (by omega)] at hv738_1
           replace hv738_1 := Option.some.inj (hv738_1.symm.trans hx738_1)
           injection hv738_1 with hva_ hvn_ hvc_
           rw [hva_] at ge738_1
           rw [hvc_] at ul738_1
           have HL738_1 := Aside0.mk (show Kd.V k56 56 _ w.heap.size _ _ ((rd_T56 x0_1 0).f1) from Kd.V_mk ul738_1 ge738_1)
           clear hva_ hvn_ hvc_ ge738_1 ul738_1
           clear hcc738 hce738
           have qi738 : (0 < x0_1.length) = True := eq_true (by omega)
           (try rw [show ((0 : Int)).toNat = 0 from rfl] at hx738_0)
           (try rw [show 0 * 2 = 0 from rfl] at hx738_0)
           (try rw [Addr.add_zero'] at hx738_0)
           (try rw [show ((0 : Int)).toNat = 0 from rfl] at hx738_1)
           (try rw [show 0 * 2 = 0 from rfl] at hx738_1)
           (try rw [Addr.add_zero'] at hx738_1)
           (try (have he_ := Option.some.inj (hx738_1.symm.trans (show _ = some (Value.slice A735_1 _ c735_1) from by assumption));injection he_ with ha_ hn_ hc_;clear hn_;subst ha_;subst hc_))
           have HR738_1 := Aside0.mk hi738_1
           have HC738_1 := Aside0.mk hl738_1
           clear hi738_1 hl738_1
           replace p738 := eq_true p738
           replace q738 := eq_true q738
           try go_wp2_with (first|((with_reducible refine gate_builtin (b := .append) (xs := #[.tmp 49,.tmp 53]) rfl ?_);at_builtin;refine Kd.N_append k56 (w0 := w) w.heap.size rfl (.tmp 49) (.tmp 53) 48 56 (.agg #[(.int .i64 0),(.slice none 0 0)]) 32 rfl Try.underlying48 info56 rfl (by decide) (by omega) u5 x5_1 (⟨(rd_T56 x0_1 0).f0,(rd_T56 x0_1 0).f1⟩ : S56) [.int .i64 ((rd_T56 x0_1 0).f0),.slice A738_1 ((rd_T56 x0_1 0).f1).length c738_1] (fun k_ => ((P0_ k_ ∨ P1_ k_) ∨ w.heap.size ≤ k_)) (fun k_ => ((fun k_ => ((P0_ k_ ∨ P1_ k_) ∨ w.heap.size ≤ k_))) k_ ∧ some k_ ≠ (u5 : Value).ownBlock) rfl rfl ?aP (fun _ hk => hk) ?aF ?aO ?aB ?aS ?aL ?_;(case aP => exact (k56_mkF _ _ (⟨(rd_T56 x0_1 0).f0,(rd_T56 x0_1 0).f1⟩ : S56) (Kd.V_reads' (Kd.V_mono (ok' := (fun k_ => ((fun k_ => ((P0_ k_ ∨ P1_ k_) ∨ w.heap.size ≤ k_))) k_ ∧ some k_ ≠ (u5 : Value).ownBlock)) (HL738_1.out) (fun k_ hk => ⟨hk.1,hk.2⟩))).2.1 (Kd.V_F (Kd.V_mono (ok' := (fun k_ => ((fun k_ => ((P0_ k_ ∨ P1_ k_) ∨ w.heap.size ≤ k_))) k_ ∧ some k_ ≠ (u5 : Value).ownBlock)) (HL738_1.out) (fun k_ hk => ⟨hk.1,hk.2⟩)))));(case aB => exact bz);(case aF => exact (fun k_ hk => (.inr (Nat.le_trans (below_size bz) hk))));(case aO => exact (Kd.Nz HO_5.out));(case aS => exact (below_size bz));(case aL => have := LMc15.out;omega);intro v740 w21 ho hb hg hat;rw [← Ny739.out] at ho;have n0_ := Aside0.mk (Kd.V_afterv (ok := (fun k_ => ((P0_ k_ ∨ P1_ k_) ∨ w.heap.size ≤ k_))) (Kd.Vz HO_0.out) hg hat);have n1_ := Aside0.mk (Kd.V_afterv (ok := (fun k_ => ((P0_ k_ ∨ P1_ k_) ∨ w.heap.size ≤ k_))) (Kd.Vz HO_1.out) hg hat);have n2_ := Aside0.mk (Kd.V_afterv (ok := (fun k_ => ((P0_ k_ ∨ P1_ k_) ∨ w.heap.size ≤ k_))) (Kd.Vz HL735_1.out) hg hat);have n3_ := Aside0.mk (Kd.V_afterv (ok := (fun k_ => ((P0_ k_ ∨ P1_ k_) ∨ w.heap.size ≤ k_))) (Kd.Vz HL736_1.out) hg hat);have n4_ := Aside0.mk (Kd.V_afterv (ok := (fun k_ => ((P0_ k_ ∨ P1_ k_) ∨ w.heap.size ≤ k_))) (Kd.Vz HL738_1.out) hg hat);have n5_ := Aside0.mk (hb);have n6_ := Aside0.mk (ho);clear HO_0;clear HO_1;clear HL735_1;clear HL736_1;clear HL738_1;clear HB;clear HO_5;have HO_0 := n0_;have HO_1 := n1_;have HL735_1 := n2_;have HL736_1 := n3_;have HL738_1 := n4_;have HB := n5_;have HO741 := n6_;clear n0_ n1_ n2_ n3_ n4_ n5_ n6_;clear ho hb hg hat;have q22 : (1 : Int) ≤ ((x0_1.length : Int) : Int) := dz;obtain ⟨i022,hi022,_,hsz22,_⟩ := info_parts info56;have hroom22 : x0_1.length ≤ co18 := (Kd.V_reads' HO_0.out).2.1;have hC22 : Kd.F k56 _ _ (some ad735) x0_1.length x0_1 := (Kd.V_at (base := w.heap.size) HO_0.out).2.2;have hcut22 := cut_from (P := Try.prog) 48 56 .i64 Try.underlying48 hi022 2 hsz22 (some ad735) x0_1.length co18 1 (by omega) q22;have hr22 := Kd.F_cut (m := (1 : Int).toNat) (c := co18) hC22 (by omega) hroom22;obtain ⟨A22,hA22⟩ : ∃ Aq_,Aq_ = (if co18 = (1 : Int).toNat then (some ad735) else ((some ad735) : Option Addr).map (·.add ((1 : Int).toNat * 2))) := ⟨_,rfl⟩;obtain ⟨c22,hc22⟩ : ∃ cq_,cq_ = co18 - (1 : Int).toNat := ⟨_,rfl⟩;have hy22 : y742.length = x0_1.length - (1 : Int).toNat := (by rw [Ny742.out,List.length_drop] <;> omega);rw [show (x0_1).drop (1 : Int).toNat = y742 from Ny742.out.symm] at hr22;replace hr22 : Kd.F k56 _ _ A22 y742.length y742 := (by rw [hA22];exact hr22);rw [← hy22,← hA22,← hc22] at hcut22;have HO746 := Aside0.mk (show Kd.V k56 56 _ w.heap.size _ (.slice A22 y742.length c22) y742 from Kd.V_mk (by rw [hy22,hc22];exact Nat.sub_le_sub_right hroom22 _) hr22);have HC746 := Aside0.mk (show y742.length ≤ c22 from by rw [hy22,hc22];exact Nat.sub_le_sub_right hroom22 _);clear hr22 hC22 hroom22 hi022 hsz22 hc22;have KY22 := Aside0.mk hy22;have KA22 := Aside0.mk hA22;clear hy22 hA22;replace q22 := eq_true q22))
           go_roundg kj4
           case measure => have := HK1.out;have := HJ4.out;omega
           case rel => exact ⟨(y742),(x1_1),(y739),H',⟨by have := HK1.out;have := HJ4.out;omega⟩,⟨by (with_reducible repeat (first|apply Kd.V_alloc|apply Kd.V_drewN|apply Kd.V_drew));exact HO746.out⟩,⟨by (with_reducible repeat (first|apply Kd.V_alloc|apply Kd.V_drewN|apply Kd.V_drew));exact HO_1.out⟩,⟨by (with_reducible repeat (first|apply Kd.N_alloc|apply Kd.N_drewN|apply Kd.N_drew));exact HO741.out⟩,⟨bz⟩⟩
          ·rw [if_neg c16] at H
           exact absurd H (by simp)
         ·rw [if_neg c15] at H
          exact absurd H (by simp)
        ·rw [if_neg c14] at H
         have c14b0 : decide (0 < t737) = false := decide_eq_false c14
         clear c14
         by_cases c23 : t737 < 0
         ·rw [if_pos c23] at H
          have c23b0 : decide (t737 < 0) = true := decide_eq_true c23
          clear c23
          by_cases c24 : x5_1.length < 4398046511104
          ·rw [if_pos c24] at H
           have LMc24 := Aside0.mk c24
           clear c24
           obtain ⟨y748,hy748⟩ : ∃ y_ : List (S56),y_ = (x5_1 ++ [(⟨(rd_T56 x1_1 0).f0,(rd_T56 x1_1 0).f1⟩ : S56)]) := ⟨_,rfl⟩
           replace H : (if 1 ≤ (x1_1.length : Int) then (impl_natural.l0 kj4 x0_1 (x1_1.drop 1) y748) else (none)) = some r := by first|(rw [hy748];with_reducible exact H)|(have H2_ := (Option.bind_some _ _).symm.trans H;rw [hy748];with_reducible exact H2_)|(have H2_ := (Option.bind_some _ _).symm.trans H;with_reducible exact H2_)|with_reducible exact H|(rw [hy748];exact H)|exact H
           have Ny748 := Aside0.mk hy748
           clear hy748
           by_cases c25 : 1 ≤ (x1_1.length : Int)
           ·rw [if_pos c25] at H
            have c25b0 := eq_true c25
            have c25b1 : decide (1 ≤ (x1_1.length : Int)) = true := decide_eq_true c25
            clear c25
            obtain ⟨y751,hy751⟩ : ∃ y_ : List (S56),y_ = (x1_1.drop 1) := ⟨_,rfl⟩
            replace H : (impl_natural.l0 kj4 x0_1 y751 y748) = some r := by first|(rw [hy751];with_reducible exact H)|(have H2_ := (Option.bind_some _ _).symm.trans H;rw [hy751];with_reducible exact H2_)|(have H2_ := (Option.bind_some _ _).symm.trans H;with_reducible exact H2_)|with_reducible exact H|(rw [hy751];exact H)|exact H
            have Ny751 := Aside0.mk hy751
            clear hy751
            have H' := Aside0.mk H
            clear H
            try go_wp2
            have n0_ := Aside0.mk (Kd.V_drew HO_0.out)
            have n1_ := Aside0.mk (Kd.V_drew HO_1.out)
            have n2_ := Aside0.mk (Kd.N_drew HO_5.out)
            have n3_ := Aside0.mk (below_drew1 HB.out)
            clear HO_0
            clear HO_1
            clear HO_5
            clear HB
            have HO_0 := n0_
            have HO_1 := n1_
            have HO_5 := n2_
            have HB := n3_
            clear n0_ n1_ n2_ n3_
            obtain ⟨Ao27,co27,eo27⟩ := Kd.V_slice HO_0.out
            (first|subst eo27|(injection eo27 with f1_ f2_ f3_;have f4_ := f1_.symm;have f5_ := f3_.symm;clear f1_ f2_ f3_;subst f4_;subst f5_))
            have p735 : 0 ≤ (0 : Int) := (by omega)
            have q735 : 0 < (x0_1.length : Int) := dz
            obtain ⟨ad735,A735_1,c735_1,e735,hx735_0,hx735_1,hl735_1,hi735_1⟩ := at_T56 (Kd.V_reads' HO_0.out).2.2 0 p735 q735
            cases e735
            obtain ⟨ce735,hce735,hMe735,hcc735⟩ := Kd.V_get HO_0.out z56 0 p735 (by first|exact q735|exact dz|(have e_ := (Kd.V_reads' HO_0.out).1;omega))
            obtain ⟨ua735_1,uc735_1,rfl,ul735_1,ge735_1⟩ := k56_openF hMe735
            have hv735_1 := hcc735 1 _ rfl
            rw [add_field _ _ 1 (by omega)] at hv735_1
            replace hv735_1 := Option.some.inj (hv735_1.symm.trans hx735_1)
            injection hv735_1 with hva_ hvn_ hvc_
            rw [hva_] at ge735_1
            rw [hvc_] at ul735_1
            have HL735_1 := Aside0.mk (show Kd.V k56 56 _ w.heap.size _ _ ((rd_T56 x0_1 0).f1) from Kd.V_mk ul735_1 ge735_1)
            clear hva_ hvn_ hvc_ ge735_1 ul735_1
            clear hcc735 hce735
            have qi735 : (0 < x0_1.length) = True := eq_true (by omega)
            (try rw [show ((0 : Int)).toNat = 0 from rfl] at hx735_0)
            (try rw [show 0 * 2 = 0 from rfl] at hx735_0)
            (try rw [Addr.add_zero'] at hx735_0)
            (try rw [show ((0 : Int)).toNat = 0 from rfl] at hx735_1)
            (try rw [show 0 * 2 = 0 from rfl] at hx735_1)
            (try rw [Addr.add_zero'] at hx735_1)
            have HR735_1 := Aside0.mk hi735_1
            have HC735_1 := Aside0.mk hl735_1
            clear hi735_1 hl735_1
            replace p735 := eq_true p735
            replace q735 := eq_true q735
            obtain ⟨Ao28,co28,eo28⟩ := Kd.V_slice HO_1.out
            (first|subst eo28|(injection eo28 with f1_ f2_ f3_;have f4_ := f1_.symm;have f5_ := f3_.symm;clear f1_ f2_ f3_;subst f4_;subst f5_))
            have p736 : 0 ≤ (0 : Int) := (by omega)
            have q736 : 0 < (x1_1.length : Int) := dz
            obtain ⟨ad736,A736_1,c736_1,e736,hx736_0,hx736_1,hl736_1,hi736_1⟩ := at_T56 (Kd.V_reads' HO_1.out).2.2 0 p736 q736
            cases e736
            obtain ⟨ce736,hce736,hMe736,hcc736⟩ := Kd.V_get HO_1.out z56 0 p736 (by first|exact q736|exact dz|(have e_ := (Kd.V_reads' HO_1.out).1;omega))
            obtain ⟨ua736_1,uc736_1,rfl,ul736_1,ge736_1⟩ := k56_openF hMe736
            have hv736_1 := hcc736 1 _ rfl
            rw [add_field _ _ 1 (by omega)] at hv736_1
            replace hv736_1 := Option.some.inj (hv736_1.symm.trans hx736_1)
            injection hv736_1 with hva_ hvn_ hvc_
            rw [hva_] at ge736_1
            rw [hvc_] at ul736_1
            have HL736_1 := Aside0.mk (show Kd.V k56 56 _ w.heap.size _ _ ((rd_T56 x1_1 0).f1) from Kd.V_mk ul736_1 ge736_1)
            clear hva_ hvn_ hvc_ ge736_1 ul736_1
            clear hcc736 hce736
            have qi736 : (0 < x1_1.length) = True := eq_true (by omega)
            (try rw [show ((0 : Int)).toNat = 0 from rfl] at hx736_0)
            (try rw [show 0 * 2 = 0 from rfl] at hx736_0)
            (try rw [Addr.add_zero'] at hx736_0)
            (try rw [show ((0 : Int)).toNat = 0 from rfl] at hx736_1)
            (try rw [show 0 * 2 = 0 from rfl] at hx736_1)
            (try rw [Addr.add_zero'] at hx736_1)
            have HR736_1 := Aside0.mk hi736_1
            have HC736_1 := Aside0.mk hl736_1
            clear hi736_1 hl736_1
            replace p736 := eq_true p736
            replace q736 := eq_true q736
            refine start_ (n := 10) (S := fun w' => w'.cell? ad735 = some (.int .i64 ((rd_T56 x0_1 0).f0)) ∧ w'.cell? ⟨ad735.block,ad735.off + 1,none⟩ = some (.slice A735_1 ((rd_T56 x0_1 0).f1).length c735_1) ∧ w'.cell? ad736 = some (.int .i64 ((rd_T56 x1_1 0).f0)) ∧ w'.cell? ⟨ad736.block,ad736.off + 1,none⟩ = some (.slice A736_1 ((rd_T56 x1_1 0).f1).length c736_1)) (ds := []) #[false,false,false,false,false,false,false,false,false,false] (by kernel_rfl) rfl rfl ⟨hx735_0,hx735_1,hx736_0,hx736_1⟩ (fun hHeld => ?_);refine with_tabW impl_natural.tab3 impl_natural.bits3 (fun HT_ HW_ => ?_)
            generalize wc.drew = w26 at HO_0 HO_1 HO_5 HB HL735_1 HL736_1 HR735_1 HR736_1 hx735_0 hx735_1 hx736_0 hx736_1 hHeld ⊢
            refine pure_ (i := 0) (N := some 16) (v := ?_) (a' := ?_) #[true,false,false,false,false,false,false,false,false,false] rfl rfl (any_of HT_.out (by kernel_rfl)) (fun _ _ _ h => h) (Or.inl ⟨by rfl,?_⟩) ?_ ?_
            rotate_left
            ·intro w'
             go_simp
             with_reducible rfl
            rotate_left
            ·simp only [Act.put,List.setIfInBounds_toArray,List.set_cons_zero,List.set_cons_succ,i64_w,i32_w]
             rfl
            refine pure_ (i := 1) (N := some 17) (v := ?_) (a' := ?_) #[true,true,false,false,false,false,false,false,false,false] rfl rfl (any_of HT_.out (by kernel_rfl)) (fun _ _ _ h => h) (Or.inl ⟨by rfl,?_⟩) ?_ ?_
            rotate_left
            ·intro w'
             go_simp
             with_reducible rfl
            rotate_left
            ·simp only [Act.put,List.setIfInBounds_toArray,List.set_cons_zero,List.set_cons_succ,i64_w,i32_w]
             rfl
            refine pure_ (i := 2) (N := some 18) (v := ?_) (a' := ?_) #[true,true,true,false,false,false,false,false,false,false] rfl rfl (any_of HT_.out (by kernel_rfl)) (fun _ _ _ h => h) (Or.inl ⟨by rfl,?_⟩) ?_ ?_
            rotate_left
            ·intro w'
             go_simp
             with_reducible rfl
            rotate_left
            ·simp only [Act.put,List.setIfInBounds_toArray,List.set_cons_zero,List.set_cons_succ,i64_w,i32_w]
             rfl
            refine pure_ (i := 4) (N := some 20) (v := ?_) (a' := ?_) #[true,true,true,false,true,false,false,false,false,false] rfl rfl (any_of HT_.out (by kernel_rfl)) (fun _ _ _ h => h) (Or.inl ⟨by rfl,?_⟩) ?_ ?_
            rotate_left
            ·intro w'
             go_simp
             with_reducible rfl
            rotate_left
            ·simp only [Act.put,List.setIfInBounds_toArray,List.set_cons_zero,List.set_cons_succ,i64_w,i32_w]
             rfl
            refine pure_ (i := 5) (N := some 21) (v := ?_) (a' := ?_) #[true,true,true,false,true,true,false,false,false,false] rfl rfl (any_of HT_.out (by kernel_rfl)) (fun _ _ _ h => h) (Or.inl ⟨by rfl,?_⟩) ?_ ?_
            rotate_left
            ·intro w'
             go_simp
             with_reducible rfl
            rotate_left
            ·simp only [Act.put,List.setIfInBounds_toArray,List.set_cons_zero,List.set_cons_succ,i64_w,i32_w]
             rfl
            refine pure_ (i := 6) (N := some 22) (v := ?_) (a' := ?_) #[true,true,true,false,true,true,true,false,false,false] rfl rfl (any_of HT_.out (by kernel_rfl)) (fun _ _ _ h => h) (Or.inl ⟨by rfl,?_⟩) ?_ ?_
            rotate_left
            ·intro w'
             go_simp
             with_reducible rfl
            rotate_left
            ·simp only [Act.put,List.setIfInBounds_toArray,List.set_cons_zero,List.set_cons_succ,i64_w,i32_w]
             rfl
            refine take_ (i := 3) (N := some 19) (v := ?_) (a' := ?_) #[true,true,true,true,true,true,true,false,false,false] rfl rfl (take_ofW HT_.out HW_.out (by kernel_rfl)) (fun _ _ _ h => h) (Or.inl ⟨by rfl,?_⟩) hHeld ?_ ?_
            rotate_left
            ·rintro w' ⟨s0,s1,s2,s3⟩
             go_simp
             with_reducible rfl
            rotate_left
            ·simp only [Act.put,List.setIfInBounds_toArray,List.set_cons_zero,List.set_cons_succ,i64_w,i32_w]
             rfl
            refine take_ (i := 7) (N := some 23) (v := ?_) (a' := ?_) #[true,true,true,true,true,true,true,true,false,false] rfl rfl (take_ofW HT_.out HW_.out (by kernel_rfl)) (fun _ _ _ h => h) (Or.inl ⟨by rfl,?_⟩) hHeld ?_ ?_
            rotate_left
            ·rintro w' ⟨s0,s1,s2,s3⟩
             go_simp
             with_reducible rfl
            rotate_left
            ·simp only [Act.put,List.setIfInBounds_toArray,List.set_cons_zero,List.set_cons_succ,i64_w,i32_w]
             rfl
            refine one_ (i := 8) (N := some 24) #[true,true,true,true,true,true,true,true,true,false] rfl rfl (one_of HT_.out (by kernel_rfl)) (by decide) (fun K hK => ?_)
            refine goes_ Try.func66 (by kernel_rfl) rfl #[.slice A735_1 ((rd_T56 x0_1 0).f1).length c735_1,.slice A736_1 ((rd_T56 x1_1 0).f1).length c736_1] (by rfl) rfl rfl az ?_
            with_reducible refine (impl_compare.calls kj4 _ _ ((rd_T56 x0_1 0).f1) _ _ ((rd_T56 x1_1 0).f1) t737 _ ?side1 ?side2 ?side3 ?side4 A13.out).mono ?_
            (case side1 => repeat (first|exact (by repeat (first|(with_reducible exact HR735_1.out)|(with_reducible refine Kd.C_alloc ?_ _)|(with_reducible refine Kd.C_drewN ?_ _)|(with_reducible refine Kd.C_drew ?_)|exact HR735_1.out))|(with_reducible refine Kd.C_alloc ?_ _)|(with_reducible refine Kd.C_drewN ?_ _)|(with_reducible refine Kd.C_drew ?_)))
            (case side2 => exact HC735_1.out)
            (case side3 => repeat (first|exact (by repeat (first|(with_reducible exact HR736_1.out)|(with_reducible refine Kd.C_alloc ?_ _)|(with_reducible refine Kd.C_drewN ?_ _)|(with_reducible refine Kd.C_drew ?_)|exact HR736_1.out))|(with_reducible refine Kd.C_alloc ?_ _)|(with_reducible refine Kd.C_drewN ?_ _)|(with_reducible refine Kd.C_drew ?_)))
            (case side4 => exact HC736_1.out)
            rintro e w29 ⟨rfl,hb⟩
            have HS0_ := (hb.cell (World.block_lt_of_cell? _ _ (hHeld.1))).trans (hHeld.1)
            have HS1_ := (hb.cell (World.block_lt_of_cell? _ _ (hHeld.2.1))).trans (hHeld.2.1)
            have HS2_ := (hb.cell (World.block_lt_of_cell? _ _ (hHeld.2.2.1))).trans (hHeld.2.2.1)
            have HS3_ := (hb.cell (World.block_lt_of_cell? _ _ (hHeld.2.2.2))).trans (hHeld.2.2.2)
            refine ⟨_,rfl,?_⟩
            have n0_ := Aside0.mk (Kd.V_below (Kd.Vz HO_0.out) hb)
            have n1_ := Aside0.mk (Kd.V_below (Kd.Vz HO_1.out) hb)
            have n2_ := Aside0.mk (Kd.N_below (Kd.Nz HO_5.out) hb)
            have n3_ := Aside0.mk (Kd.V_below (Kd.Vz HL735_1.out) hb)
            have n4_ := Aside0.mk (Kd.V_below (Kd.Vz HL736_1.out) hb)
            have n5_ := Aside0.mk (Kd.C_below (by repeat (first|(with_reducible exact HR735_1.out)|(with_reducible refine Kd.C_alloc ?_ _)|(with_reducible refine Kd.C_drewN ?_ _)|(with_reducible refine Kd.C_drew ?_)|exact HR735_1.out)) hb)
            have n6_ := Aside0.mk (Kd.C_below (by repeat (first|(with_reducible exact HR736_1.out)|(with_reducible refine Kd.C_alloc ?_ _)|(with_reducible refine Kd.C_drewN ?_ _)|(with_reducible refine Kd.C_drew ?_)|exact HR736_1.out)) hb)
            have n7_ := Aside0.mk (below_step bz hb)
            clear HO_0
            clear HO_1
            clear HO_5
            clear HL735_1
            clear HL736_1
            clear HR735_1
            clear HR736_1
            clear HB
            have HO_0 := n0_
            have HO_1 := n1_
            have HO_5 := n2_
            have HL735_1 := n3_
            have HL736_1 := n4_
            have HR735_1 := n5_
            have HR736_1 := n6_
            have HB := n7_
            clear n0_ n1_ n2_ n3_ n4_ n5_ n6_ n7_
            (try clear hb)
            (try clear hb2)
            (try clear hk)
            (try clear hi)
            refine hK.out _ _ ⟨HS0_,HS1_,HS2_,HS3_⟩ (fun hHeld => ?_)
            clear hK K
            refine norm_ (a' := ?_) ?_ ?_
            rotate_left
            ·show Act.put _ (some 24) _ = _
             simp only [Act.put,List.setIfInBounds_toArray,List.set_cons_zero,List.set_cons_succ,i64_w,i32_w]
             rfl
            refine pure_ (i := 9) (N := some 6) (v := ?_) (a' := ?_) #[true,true,true,true,true,true,true,true,true,true] rfl rfl (any_of HT_.out (by kernel_rfl)) (fun _ _ _ h => h) (Or.inl ⟨by rfl,?_⟩) ?_ ?_
            rotate_left
            ·intro w'
             go_simp
             with_reducible rfl
            rotate_left
            ·simp only [Act.put,List.setIfInBounds_toArray,List.set_cons_zero,List.set_cons_succ,i64_w,i32_w]
             rfl
            refine done_ (done_of HT_.out (by kernel_rfl)) ?_
            have p747 : 0 ≤ (0 : Int) := (by omega)
            have q747 : 0 < (x1_1.length : Int) := dz
            obtain ⟨ad747,A747_1,c747_1,e747,hx747_0,hx747_1,hl747_1,hi747_1⟩ := at_T56 (Kd.V_reads' HO_1.out).2.2 0 p747 q747
            obtain rfl : ad736 = ad747 := (by injection e747)
            obtain ⟨ce747,hce747,hMe747,hcc747⟩ := Kd.V_get HO_1.out z56 0 p747 (by first|exact q747|exact dz|(have e_ := (Kd.V_reads' HO_1.out).1;omega))
            obtain ⟨ua747_1,uc747_1,rfl,ul747_1,ge747_1⟩ := k56_openF hMe747
            have hv747_1 := hcc747 1 _ rfl
            rw [add_field _ _ 1 (by omega)] at hv747_1
            replace hv747_1 := Option.some.inj (hv747_1.symm.trans hx747_1)
            injection hv747_1 with hva_ hvn_ hvc_
            rw [hva_] at ge747_1
            rw [hvc_] at ul747_1
            have HL747_1 := Aside0.mk (show Kd.V k56 56 _ w.heap.size _ _ ((rd_T56 x1_1 0).f1) from Kd.V_mk ul747_1 ge747_1)
            clear hva_ hvn_ hvc_ ge747_1 ul747_1
            clear hcc747 hce747
            have qi747 : (0 < x1_1.length) = True := eq_true (by omega)
            (try rw [show ((0 : Int)).toNat = 0 from rfl] at hx747_0)
            (try rw [show 0 * 2 = 0 from rfl] at hx747_0)
            (try rw [Addr.add_zero'] at hx747_0)
            (try rw [show ((0 : Int)).toNat = 0 from rfl] at hx747_1)
            (try rw [show 0 * 2 = 0 from rfl] at hx747_1)
            (try rw [Addr.add_zero'] at hx747_1)
            (try (have he_ := Option.some.inj (hx747_1.symm.trans (show _ = some (Value.slice A736_1 _ c736_1) from by assumption));injection he_ with ha_ hn_ hc_;clear hn_;subst ha_;subst hc_))
            have HR747_1 := Aside0.mk hi747_1
            have HC747_1 := Aside0.mk hl747_1
            clear hi747_1 hl747_1
            replace p747 := eq_true p747
            replace q747 := eq_true q747
            try go_wp2_with (first|((with_reducible refine gate_builtin (b := .append) (xs := #[.tmp 60,.tmp 64]) rfl ?_);at_builtin;refine Kd.N_append k56 (w0 := w) w.heap.size rfl (.tmp 60) (.tmp 64) 48 56 (.agg #[(.int .i64 0),(.slice none 0 0)]) 32 rfl Try.underlying48 info56 rfl (by decide) (by omega) u5 x5_1 (⟨(rd_T56 x1_1 0).f0,(rd_T56 x1_1 0).f1⟩ : S56) [.int .i64 ((rd_T56 x1_1 0).f0),.slice A747_1 ((rd_T56 x1_1 0).f1).length c747_1] (fun k_ => ((P0_ k_ ∨ P1_ k_) ∨ w.heap.size ≤ k_)) (fun k_ => ((fun k_ => ((P0_ k_ ∨ P1_ k_) ∨ w.heap.size ≤ k_))) k_ ∧ some k_ ≠ (u5 : Value).ownBlock) rfl rfl ?aP (fun _ hk => hk) ?aF ?aO ?aB ?aS ?aL ?_;(case aP => exact (k56_mkF _ _ (⟨(rd_T56 x1_1 0).f0,(rd_T56 x1_1 0).f1⟩ : S56) (Kd.V_reads' (Kd.V_mono (ok' := (fun k_ => ((fun k_ => ((P0_ k_ ∨ P1_ k_) ∨ w.heap.size ≤ k_))) k_ ∧ some k_ ≠ (u5 : Value).ownBlock)) (HL747_1.out) (fun k_ hk => ⟨hk.1,hk.2⟩))).2.1 (Kd.V_F (Kd.V_mono (ok' := (fun k_ => ((fun k_ => ((P0_ k_ ∨ P1_ k_) ∨ w.heap.size ≤ k_))) k_ ∧ some k_ ≠ (u5 : Value).ownBlock)) (HL747_1.out) (fun k_ hk => ⟨hk.1,hk.2⟩)))));(case aB => exact bz);(case aF => exact (fun k_ hk => (.inr (Nat.le_trans (below_size bz) hk))));(case aO => exact (Kd.Nz HO_5.out));(case aS => exact (below_size bz));(case aL => have := LMc24.out;omega);intro v749 w30 ho hb hg hat;rw [← Ny748.out] at ho;have n0_ := Aside0.mk (Kd.V_afterv (ok := (fun k_ => ((P0_ k_ ∨ P1_ k_) ∨ w.heap.size ≤ k_))) (Kd.Vz HO_0.out) hg hat);have n1_ := Aside0.mk (Kd.V_afterv (ok := (fun k_ => ((P0_ k_ ∨ P1_ k_) ∨ w.heap.size ≤ k_))) (Kd.Vz HO_1.out) hg hat);have n2_ := Aside0.mk (Kd.V_afterv (ok := (fun k_ => ((P0_ k_ ∨ P1_ k_) ∨ w.heap.size ≤ k_))) (Kd.Vz HL735_1.out) hg hat);have n3_ := Aside0.mk (Kd.V_afterv (ok := (fun k_ => ((P0_ k_ ∨ P1_ k_) ∨ w.heap.size ≤ k_))) (Kd.Vz HL736_1.out) hg hat);have n4_ := Aside0.mk (Kd.V_afterv (ok := (fun k_ => ((P0_ k_ ∨ P1_ k_) ∨ w.heap.size ≤ k_))) (Kd.Vz HL747_1.out) hg hat);have n5_ := Aside0.mk (hb);have n6_ := Aside0.mk (ho);clear HO_0;clear HO_1;clear HL735_1;clear HL736_1;clear HL747_1;clear HB;clear HO_5;have HO_0 := n0_;have HO_1 := n1_;have HL735_1 := n2_;have HL736_1 := n3_;have HL747_1 := n4_;have HB := n5_;have HO750 := n6_;clear n0_ n1_ n2_ n3_ n4_ n5_ n6_;clear ho hb hg hat;have q31 : (1 : Int) ≤ ((x1_1.length : Int) : Int) := dz;obtain ⟨i031,hi031,_,hsz31,_⟩ := info_parts info56;have hroom31 : x1_1.length ≤ co28 := (Kd.V_reads' HO_1.out).2.1;have hC31 : Kd.F k56 _ _ (some ad736) x1_1.length x1_1 := (Kd.V_at (base := w.heap.size) HO_1.out).2.2;have hcut31 := cut_from (P := Try.prog) 48 56 .i64 Try.underlying48 hi031 2 hsz31 (some ad736) x1_1.length co28 1 (by omega) q31;have hr31 := Kd.F_cut (m := (1 : Int).toNat) (c := co28) hC31 (by omega) hroom31;obtain ⟨A31,hA31⟩ : ∃ Aq_,Aq_ = (if co28 = (1 : Int).toNat then (some ad736) else ((some ad736) : Option Addr).map (·.add ((1 : Int).toNat * 2))) := ⟨_,rfl⟩;obtain ⟨c31,hc31⟩ : ∃ cq_,cq_ = co28 - (1 : Int).toNat := ⟨_,rfl⟩;have hy31 : y751.length = x1_1.length - (1 : Int).toNat := (by rw [Ny751.out,List.length_drop] <;> omega);rw [show (x1_1).drop (1 : Int).toNat = y751 from Ny751.out.symm] at hr31;replace hr31 : Kd.F k56 _ _ A31 y751.length y751 := (by rw [hA31];exact hr31);rw [← hy31,← hA31,← hc31] at hcut31;have HO755 := Aside0.mk (show Kd.V k56 56 _ w.heap.size _ (.slice A31 y751.length c31) y751 from Kd.V_mk (by rw [hy31,hc31];exact Nat.sub_le_sub_right hroom31 _) hr31);have HC755 := Aside0.mk (show y751.length ≤ c31 from by rw [hy31,hc31];exact Nat.sub_le_sub_right hroom31 _);clear hr31 hC31 hroom31 hi031 hsz31 hc31;have KY31 := Aside0.mk hy31;have KA31 := Aside0.mk hA31;clear hy31 hA31;replace q31 := eq_true q31))
            go_roundg kj4
            case measure => have := HK1.out;have := HJ4.out;omega
            case rel => exact ⟨(x0_1),(y751),(y748),H',⟨by have := HK1.out;have := HJ4.out;omega⟩,⟨by (with_reducible repeat (first|apply Kd.V_alloc|apply Kd.V_drewN|apply Kd.V_drew));exact HO_0.out⟩,⟨by (with_reducible repeat (first|apply Kd.V_alloc|apply Kd.V_drewN|apply Kd.V_drew));exact HO755.out⟩,⟨by (with_reducible repeat (first|apply Kd.N_alloc|apply Kd.N_drewN|apply Kd.N_drew));exact HO750.out⟩,⟨bz⟩⟩
           ·rw [if_neg c25] at H
            exact absurd H (by simp)
          ·rw [if_neg c24] at H
           exact absurd H (by simp)
         ·rw [if_neg c23] at H
          have c23b0 : decide (t737 < 0) = false := decide_eq_false c23
          clear c23
          by_cases c32 : x5_1.length < 4398046511104
          ·rw [if_pos c32] at H
           have LMc32 := Aside0.mk c32
           clear c32
           obtain ⟨y759,hy759⟩ : ∃ y_ : List (S56),y_ = (x5_1 ++ [(⟨wrap64 (((rd_T56 x0_1 0).f0) + ((rd_T56 x1_1 0).f0)),(rd_T56 x0_1 0).f1⟩ : S56)]) := ⟨_,rfl⟩
           replace H : (if 1 ≤ (x0_1.length : Int) then (if 1 ≤ (x1_1.length : Int) then (impl_natural.l0 kj4 (x0_1.drop 1) (x1_1.drop 1) y759) else (none)) else (none)) = some r := by first|(rw [hy759];with_reducible exact H)|(have H2_ := (Option.bind_some _ _).symm.trans H;rw [hy759];with_reducible exact H2_)|(have H2_ := (Option.bind_some _ _).symm.trans H;with_reducible exact H2_)|with_reducible exact H|(rw [hy759];exact H)|exact H
           have Ny759 := Aside0.mk hy759
           clear hy759
           by_cases c33 : 1 ≤ (x0_1.length : Int)
           ·rw [if_pos c33] at H
            have c33b0 := eq_true c33
            have c33b1 : decide (1 ≤ (x0_1.length : Int)) = true := decide_eq_true c33
            clear c33
            obtain ⟨y762,hy762⟩ : ∃ y_ : List (S56),y_ = (x0_1.drop 1) := ⟨_,rfl⟩
            replace H : (if 1 ≤ (x1_1.length : Int) then (impl_natural.l0 kj4 y762 (x1_1.drop 1) y759) else (none)) = some r := by first|(rw [hy762];with_reducible exact H)|(have H2_ := (Option.bind_some _ _).symm.trans H;rw [hy762];with_reducible exact H2_)|(have H2_ := (Option.bind_some _ _).symm.trans H;with_reducible exact H2_)|with_reducible exact H|(rw [hy762];exact H)|exact H
            have Ny762 := Aside0.mk hy762
            clear hy762
            by_cases c34 : 1 ≤ (x1_1.length : Int)
            ·rw [if_pos c34] at H
             have c34b0 := eq_true c34
             have c34b1 : decide (1 ≤ (x1_1.length : Int)) = true := decide_eq_true c34
             clear c34
             obtain ⟨y767,hy767⟩ : ∃ y_ : List (S56),y_ = (x1_1.drop 1) := ⟨_,rfl⟩
             replace H : (impl_natural.l0 kj4 y762 y767 y759) = some r := by first|(rw [hy767];with_reducible exact H)|(have H2_ := (Option.bind_some _ _).symm.trans H;rw [hy767];with_reducible exact H2_)|(have H2_ := (Option.bind_some _ _).symm.trans H;with_reducible exact H2_)|with_reducible exact H|(rw [hy767];exact H)|exact H
             have Ny767 := Aside0.mk hy767
             clear hy767
             have H' := Aside0.mk H
             clear H
             try go_wp2
             have n0_ := Aside0.mk (Kd.V_drew HO_0.out)
             have n1_ := Aside0.mk (Kd.V_drew HO_1.out)
             have n2_ := Aside0.mk (Kd.N_drew HO_5.out)
             have n3_ := Aside0.mk (below_drew1 HB.out)
             clear HO_0
             clear HO_1
             clear HO_5
             clear HB
             have HO_0 := n0_
             have HO_1 := n1_
             have HO_5 := n2_
             have HB := n3_
             clear n0_ n1_ n2_ n3_
             obtain ⟨Ao36,co36,eo36⟩ := Kd.V_slice HO_0.out
             (first|subst eo36|(injection eo36 with f1_ f2_ f3_;have f4_ := f1_.symm;have f5_ := f3_.symm;clear f1_ f2_ f3_;subst f4_;subst f5_))
             have p735 : 0 ≤ (0 : Int) := (by omega)
             have q735 : 0 < (x0_1.length : Int) := dz
             obtain ⟨ad735,A735_1,c735_1,e735,hx735_0,hx735_1,hl735_1,hi735_1⟩ := at_T56 (Kd.V_reads' HO_0.out).2.2 0 p735 q735
             cases e735
             obtain ⟨ce735,hce735,hMe735,hcc735⟩ := Kd.V_get HO_0.out z56 0 p735 (by first|exact q735|exact dz|(have e_ := (Kd.V_reads' HO_0.out).1;omega))
             obtain ⟨ua735_1,uc735_1,rfl,ul735_1,ge735_1⟩ := k56_openF hMe735
             have hv735_1 := hcc735 1 _ rfl
             rw [add_field _ _ 1 (by omega)] at hv735_1
             replace hv735_1 := Option.some.inj (hv735_1.symm.trans hx735_1)
             injection hv735_1 with hva_ hvn_ hvc_
             rw [hva_] at ge735_1
             rw [hvc_] at ul735_1
             have HL735_1 := Aside0.mk (show Kd.V k56 56 _ w.heap.size _ _ ((rd_T56 x0_1 0).f1) from Kd.V_mk ul735_1 ge735_1)
             clear hva_ hvn_ hvc_ ge735_1 ul735_1
             clear hcc735 hce735
             have qi735 : (0 < x0_1.length) = True := eq_true (by omega)
             (try rw [show ((0 : Int)).toNat = 0 from rfl] at hx735_0)
             (try rw [show 0 * 2 = 0 from rfl] at hx735_0)
             (try rw [Addr.add_zero'] at hx735_0)
             (try rw [show ((0 : Int)).toNat = 0 from rfl] at hx735_1)
             (try rw [show 0 * 2 = 0 from rfl] at hx735_1)
             (try rw [Addr.add_zero'] at hx735_1)
             have HR735_1 := Aside0.mk hi735_1
             have HC735_1 := Aside0.mk hl735_1
             clear hi735_1 hl735_1
             replace p735 := eq_true p735
             replace q735 := eq_true q735
             obtain ⟨Ao37,co37,eo37⟩ := Kd.V_slice HO_1.out
             (first|subst eo37|(injection eo37 with f1_ f2_ f3_;have f4_ := f1_.symm;have f5_ := f3_.symm;clear f1_ f2_ f3_;subst f4_;subst f5_))
             have p736 : 0 ≤ (0 : Int) := (by omega)
             have q736 : 0 < (x1_1.length : Int) := dz
             obtain ⟨ad736,A736_1,c736_1,e736,hx736_0,hx736_1,hl736_1,hi736_1⟩ := at_T56 (Kd.V_reads' HO_1.out).2.2 0 p736 q736
             cases e736
             obtain ⟨ce736,hce736,hMe736,hcc736⟩ := Kd.V_get HO_1.out z56 0 p736 (by first|exact q736|exact dz|(have e_ := (Kd.V_reads' HO_1.out).1;omega))
             obtain ⟨ua736_1,uc736_1,rfl,ul736_1,ge736_1⟩ := k56_openF hMe736
             have hv736_1 := hcc736 1 _ rfl
             rw [add_field _ _ 1 (by omega)] at hv736_1
             replace hv736_1 := Option.some.inj (hv736_1.symm.trans hx736_1)
             injection hv736_1 with hva_ hvn_ hvc_
             rw [hva_] at ge736_1
             rw [hvc_] at ul736_1
             have HL736_1 := Aside0.mk (show Kd.V k56 56 _ w.heap.size _ _ ((rd_T56 x1_1 0).f1) from Kd.V_mk ul736_1 ge736_1)
             clear hva_ hvn_ hvc_ ge736_1 ul736_1
             clear hcc736 hce736
             have qi736 : (0 < x1_1.length) = True := eq_true (by omega)
             (try rw [show ((0 : Int)).toNat = 0 from rfl] at hx736_0)
             (try rw [show 0 * 2 = 0 from rfl] at hx736_0)
             (try rw [Addr.add_zero'] at hx736_0)
             (try rw [show ((0 : Int)).toNat = 0 from rfl] at hx736_1)
             (try rw [show 0 * 2 = 0 from rfl] at hx736_1)
             (try rw [Addr.add_zero'] at hx736_1)
             have HR736_1 := Aside0.mk hi736_1
             have HC736_1 := Aside0.mk hl736_1
             clear hi736_1 hl736_1
             replace p736 := eq_true p736
             replace q736 := eq_true q736
             refine start_ (n := 10) (S := fun w' => w'.cell? ad735 = some (.int .i64 ((rd_T56 x0_1 0).f0)) ∧ w'.cell? ⟨ad735.block,ad735.off + 1,none⟩ = some (.slice A735_1 ((rd_T56 x0_1 0).f1).length c735_1) ∧ w'.cell? ad736 = some (.int .i64 ((rd_T56 x1_1 0).f0)) ∧ w'.cell? ⟨ad736.block,ad736.off + 1,none⟩ = some (.slice A736_1 ((rd_T56 x1_1 0).f1).length c736_1)) (ds := []) #[false,false,false,false,false,false,false,false,false,false] (by kernel_rfl) rfl rfl ⟨hx735_0,hx735_1,hx736_0,hx736_1⟩ (fun hHeld => ?_);refine with_tabW impl_natural.tab3 impl_natural.bits3 (fun HT_ HW_ => ?_)
             generalize wc.drew = w35 at HO_0 HO_1 HO_5 HB HL735_1 HL736_1 HR735_1 HR736_1 hx735_0 hx735_1 hx736_0 hx736_1 hHeld ⊢
             refine pure_ (i := 0) (N := some 16) (v := ?_) (a' := ?_) #[true,false,false,false,false,false,false,false,false,false] rfl rfl (any_of HT_.out (by kernel_rfl)) (fun _ _ _ h => h) (Or.inl ⟨by rfl,?_⟩) ?_ ?_
             rotate_left
             ·intro w'
              go_simp
              with_reducible rfl
             rotate_left
             ·simp only [Act.put,List.setIfInBounds_toArray,List.set_cons_zero,List.set_cons_succ,i64_w,i32_w]
              rfl
             refine pure_ (i := 1) (N := some 17) (v := ?_) (a' := ?_) #[true,true,false,false,false,false,false,false,false,false] rfl rfl (any_of HT_.out (by kernel_rfl)) (fun _ _ _ h => h) (Or.inl ⟨by rfl,?_⟩) ?_ ?_
             rotate_left
             ·intro w'
              go_simp
              with_reducible rfl
             rotate_left
             ·simp only [Act.put,List.setIfInBounds_toArray,List.set_cons_zero,List.set_cons_succ,i64_w,i32_w]
              rfl
             refine pure_ (i := 2) (N := some 18) (v := ?_) (a' := ?_) #[true,true,true,false,false,false,false,false,false,false] rfl rfl (any_of HT_.out (by kernel_rfl)) (fun _ _ _ h => h) (Or.inl ⟨by rfl,?_⟩) ?_ ?_
             rotate_left
             ·intro w'
              go_simp
              with_reducible rfl
             rotate_left
             ·simp only [Act.put,List.setIfInBounds_toArray,List.set_cons_zero,List.set_cons_succ,i64_w,i32_w]
              rfl
             refine pure_ (i := 4) (N := some 20) (v := ?_) (a' := ?_) #[true,true,true,false,true,false,false,false,false,false] rfl rfl (any_of HT_.out (by kernel_rfl)) (fun _ _ _ h => h) (Or.inl ⟨by rfl,?_⟩) ?_ ?_
             rotate_left
             ·intro w'
              go_simp
              with_reducible rfl
             rotate_left
             ·simp only [Act.put,List.setIfInBounds_toArray,List.set_cons_zero,List.set_cons_succ,i64_w,i32_w]
              rfl
             refine pure_ (i := 5) (N := some 21) (v := ?_) (a' := ?_) #[true,true,true,false,true,true,false,false,false,false] rfl rfl (any_of HT_.out (by kernel_rfl)) (fun _ _ _ h => h) (Or.inl ⟨by rfl,?_⟩) ?_ ?_
             rotate_left
             ·intro w'
              go_simp
              with_reducible rfl
             rotate_left
             ·simp only [Act.put,List.setIfInBounds_toArray,List.set_cons_zero,List.set_cons_succ,i64_w,i32_w]
              rfl
             refine pure_ (i := 6) (N := some 22) (v := ?_) (a' := ?_) #[true,true,true,false,true,true,true,false,false,false] rfl rfl (any_of HT_.out (by kernel_rfl)) (fun _ _ _ h => h) (Or.inl ⟨by rfl,?_⟩) ?_ ?_
             rotate_left
             ·intro w'
              go_simp
              with_reducible rfl
             rotate_left
             ·simp only [Act.put,List.setIfInBounds_toArray,List.set_cons_zero,List.set_cons_succ,i64_w,i32_w]
              rfl
             refine take_ (i := 3) (N := some 19) (v := ?_) (a' := ?_) #[true,true,true,true,true,true,true,false,false,false] rfl rfl (take_ofW HT_.out HW_.out (by kernel_rfl)) (fun _ _ _ h => h) (Or.inl ⟨by rfl,?_⟩) hHeld ?_ ?_
             rotate_left
             ·rintro w' ⟨s0,s1,s2,s3⟩
              go_simp
              with_reducible rfl
             rotate_left
             ·simp only [Act.put,List.setIfInBounds_toArray,List.set_cons_zero,List.set_cons_succ,i64_w,i32_w]
              rfl
             refine take_ (i := 7) (N := some 23) (v := ?_) (a' := ?_) #[true,true,true,true,true,true,true,true,false,false] rfl rfl (take_ofW HT_.out HW_.out (by kernel_rfl)) (fun _ _ _ h => h) (Or.inl ⟨by rfl,?_⟩) hHeld ?_ ?_
             rotate_left
             ·rintro w' ⟨s0,s1,s2,s3⟩
              go_simp
              with_reducible rfl
             rotate_left
             ·simp only [Act.put,List.setIfInBounds_toArray,List.set_cons_zero,List.set_cons_succ,i64_w,i32_w]
              rfl
             refine one_ (i := 8) (N := some 24) #[true,true,true,true,true,true,true,true,true,false] rfl rfl (one_of HT_.out (by kernel_rfl)) (by decide) (fun K hK => ?_)
             refine goes_ Try.func66 (by kernel_rfl) rfl #[.slice A735_1 ((rd_T56 x0_1 0).f1).length c735_1,.slice A736_1 ((rd_T56 x1_1 0).f1).length c736_1] (by rfl) rfl rfl az ?_
             with_reducible refine (impl_compare.calls kj4 _ _ ((rd_T56 x0_1 0).f1) _ _ ((rd_T56 x1_1 0).f1) t737 _ ?side1 ?side2 ?side3 ?side4 A13.out).mono ?_
             (case side1 => repeat (first|exact (by repeat (first|(with_reducible exact HR735_1.out)|(with_reducible refine Kd.C_alloc ?_ _)|(with_reducible refine Kd.C_drewN ?_ _)|(with_reducible refine Kd.C_drew ?_)|exact HR735_1.out))|(with_reducible refine Kd.C_alloc ?_ _)|(with_reducible refine Kd.C_drewN ?_ _)|(with_reducible refine Kd.C_drew ?_)))
             (case side2 => exact HC735_1.out)
             (case side3 => repeat (first|exact (by repeat (first|(with_reducible exact HR736_1.out)|(with_reducible refine Kd.C_alloc ?_ _)|(with_reducible refine Kd.C_drewN ?_ _)|(with_reducible refine Kd.C_drew ?_)|exact HR736_1.out))|(with_reducible refine Kd.C_alloc ?_ _)|(with_reducible refine Kd.C_drewN ?_ _)|(with_reducible refine Kd.C_drew ?_)))
             (case side4 => exact HC736_1.out)
             rintro e w38 ⟨rfl,hb⟩
             have HS0_ := (hb.cell (World.block_lt_of_cell? _ _ (hHeld.1))).trans (hHeld.1)
             have HS1_ := (hb.cell (World.block_lt_of_cell? _ _ (hHeld.2.1))).trans (hHeld.2.1)
             have HS2_ := (hb.cell (World.block_lt_of_cell? _ _ (hHeld.2.2.1))).trans (hHeld.2.2.1)
             have HS3_ := (hb.cell (World.block_lt_of_cell? _ _ (hHeld.2.2.2))).trans (hHeld.2.2.2)
             refine ⟨_,rfl,?_⟩
             have n0_ := Aside0.mk (Kd.V_below (Kd.Vz HO_0.out) hb)
             have n1_ := Aside0.mk (Kd.V_below (Kd.Vz HO_1.out) hb)
             have n2_ := Aside0.mk (Kd.N_below (Kd.Nz HO_5.out) hb)
             have n3_ := Aside0.mk (Kd.V_below (Kd.Vz HL735_1.out) hb)
             have n4_ := Aside0.mk (Kd.V_below (Kd.Vz HL736_1.out) hb)
             have n5_ := Aside0.mk (Kd.C_below (by repeat (first|(with_reducible exact HR735_1.out)|(with_reducible refine Kd.C_alloc ?_ _)|(with_reducible refine Kd.C_drewN ?_ _)|(with_reducible refine Kd.C_drew ?_)|exact HR735_1.out)) hb)
             have n6_ := Aside0.mk (Kd.C_below (by repeat (first|(with_reducible exact HR736_1.out)|(with_reducible refine Kd.C_alloc ?_ _)|(with_reducible refine Kd.C_drewN ?_ _)|(with_reducible refine Kd.C_drew ?_)|exact HR736_1.out)) hb)
             have n7_ := Aside0.mk (below_step bz hb)
             clear HO_0
             clear HO_1
             clear HO_5
             clear HL735_1
             clear HL736_1
             clear HR735_1
             clear HR736_1
             clear HB
             have HO_0 := n0_
             have HO_1 := n1_
             have HO_5 := n2_
             have HL735_1 := n3_
             have HL736_1 := n4_
             have HR735_1 := n5_
             have HR736_1 := n6_
             have HB := n7_
             clear n0_ n1_ n2_ n3_ n4_ n5_ n6_ n7_
             (try clear hb)
             (try clear hb2)
             (try clear hk)
             (try clear hi)
             refine hK.out _ _ ⟨HS0_,HS1_,HS2_,HS3_⟩ (fun hHeld => ?_)
             clear hK K
             refine norm_ (a' := ?_) ?_ ?_
             rotate_left
             ·show Act.put _ (some 24) _ = _
              simp only [Act.put,List.setIfInBounds_toArray,List.set_cons_zero,List.set_cons_succ,i64_w,i32_w]
              rfl
             refine pure_ (i := 9) (N := some 6) (v := ?_) (a' := ?_) #[true,true,true,true,true,true,true,true,true,true] rfl rfl (any_of HT_.out (by kernel_rfl)) (fun _ _ _ h => h) (Or.inl ⟨by rfl,?_⟩) ?_ ?_
             rotate_left
             ·intro w'
              go_simp
              with_reducible rfl
             rotate_left
             ·simp only [Act.put,List.setIfInBounds_toArray,List.set_cons_zero,List.set_cons_succ,i64_w,i32_w]
              rfl
             refine done_ (done_of HT_.out (by kernel_rfl)) ?_
             try go_wp2
             have n0_ := Aside0.mk (Kd.V_drew HO_0.out)
             have n1_ := Aside0.mk (Kd.V_drew HO_1.out)
             have n2_ := Aside0.mk (Kd.N_drew HO_5.out)
             have n3_ := Aside0.mk (Kd.V_drew HL735_1.out)
             have n4_ := Aside0.mk (Kd.V_drew HL736_1.out)
             have n5_ := Aside0.mk (Kd.C_drew HR735_1.out)
             have n6_ := Aside0.mk (Kd.C_drew HR736_1.out)
             have n7_ := Aside0.mk (below_drew1 HB.out)
             clear HO_0
             clear HO_1
             clear HO_5
             clear HL735_1
             clear HL736_1
             clear HR735_1
             clear HR736_1
             clear HB
             have HO_0 := n0_
             have HO_1 := n1_
             have HO_5 := n2_
             have HL735_1 := n3_
             have HL736_1 := n4_
             have HR735_1 := n5_
             have HR736_1 := n6_
             have HB := n7_
             clear n0_ n1_ n2_ n3_ n4_ n5_ n6_ n7_
             have p756 : 0 ≤ (0 : Int) := (by omega)
             have q756 : 0 < (x0_1.length : Int) := dz
             obtain ⟨ad756,A756_1,c756_1,e756,hx756_0,hx756_1,hl756_1,hi756_1⟩ := at_T56 (Kd.V_reads' HO_0.out).2.2 0 p756 q756
             obtain rfl : ad735 = ad756 := (by injection e756)
             obtain ⟨ce756,hce756,hMe756,hcc756⟩ := Kd.V_get HO_0.out z56 0 p756 (by first|exact q756|exact dz|(have e_ := (Kd.V_reads' HO_0.out).1;omega))
             obtain ⟨ua756_1,uc756_1,rfl,ul756_1,ge756_1⟩ := k56_openF hMe756
             have hv756_1 := hcc756 1 _ rfl
             rw [add_field _ _ 1 (by omega)] at hv756_1
             replace hv756_1 := Option.some.inj (hv756_1.symm.trans hx756_1)
             injection hv756_1 with hva_ hvn_ hvc_
             rw [hva_] at ge756_1
             rw [hvc_] at ul756_1
             have HL756_1 := Aside0.mk (show Kd.V k56 56 _ w.heap.size _ _ ((rd_T56 x0_1 0).f1) from Kd.V_mk ul756_1 ge756_1)
             clear hva_ hvn_ hvc_ ge756_1 ul756_1
             clear hcc756 hce756
             have qi756 : (0 < x0_1.length) = True := eq_true (by omega)
             (try rw [show ((0 : Int)).toNat = 0 from rfl] at hx756_0)
             (try rw [show 0 * 2 = 0 from rfl] at hx756_0)
             (try rw [Addr.add_zero'] at hx756_0)
             (try rw [show ((0 : Int)).toNat = 0 from rfl] at hx756_1)
             (try rw [show 0 * 2 = 0 from rfl] at hx756_1)
             (try rw [Addr.add_zero'] at hx756_1)
             (try (have he_ := Option.some.inj (hx756_1.symm.trans (show _ = some (Value.slice A735_1 _ c735_1) from by assumption));injection he_ with ha_ hn_ hc_;clear hn_;subst ha_;subst hc_))
             have HR756_1 := Aside0.mk hi756_1
             have HC756_1 := Aside0.mk hl756_1
             clear hi756_1 hl756_1
             replace p756 := eq_true p756
             replace q756 := eq_true q756
             have p757 : 0 ≤ (0 : Int) := (by omega)
             have q757 : 0 < (x1_1.length : Int) := dz
             obtain ⟨ad757,A757_1,c757_1,e757,hx757_0,hx757_1,hl757_1,hi757_1⟩ := at_T56 (Kd.V_reads' HO_1.out).2.2 0 p757 q757
             obtain rfl : ad736 = ad757 := (by injection e757)
             obtain ⟨ce757,hce757,hMe757,hcc757⟩ := Kd.V_get HO_1.out z56 0 p757 (by first|exact q757|exact dz|(have e_ := (Kd.V_reads' HO_1.out).1;omega))
             obtain ⟨ua757_1,uc757_1,rfl,ul757_1,ge757_1⟩ := k56_openF hMe757
             have hv757_1 := hcc757 1 _ rfl
             rw [add_field _ _ 1 (by omega)] at hv757_1
             replace hv757_1 := Option.some.inj (hv757_1.symm.trans hx757_1)
             injection hv757_1 with hva_ hvn_ hvc_
             rw [hva_] at ge757_1
             rw [hvc_] at ul757_1
             have HL757_1 := Aside0.mk (show Kd.V k56 56 _ w.heap.size _ _ ((rd_T56 x1_1 0).f1) from Kd.V_mk ul757_1 ge757_1)
             clear hva_ hvn_ hvc_ ge757_1 ul757_1
             clear hcc757 hce757
             have qi757 : (0 < x1_1.length) = True := eq_true (by omega)
             (try rw [show ((0 : Int)).toNat = 0 from rfl] at hx757_0)
             (try rw [show 0 * 2 = 0 from rfl] at hx757_0)
             (try rw [Addr.add_zero'] at hx757_0)
             (try rw [show ((0 : Int)).toNat = 0 from rfl] at hx757_1)
             (try rw [show 0 * 2 = 0 from rfl] at hx757_1)
             (try rw [Addr.add_zero'] at hx757_1)
             (try (have he_ := Option.some.inj (hx757_1.symm.trans (show _ = some (Value.slice A736_1 _ c736_1) from by assumption));injection he_ with ha_ hn_ hc_;clear hn_;subst ha_;subst hc_))
             have HR757_1 := Aside0.mk hi757_1
             have HC757_1 := Aside0.mk hl757_1
             clear hi757_1 hl757_1
             replace p757 := eq_true p757
             replace q757 := eq_true q757
             have p758 : 0 ≤ (0 : Int) := (by omega)
             have q758 : 0 < (x0_1.length : Int) := dz
             obtain ⟨ad758,A758_1,c758_1,e758,hx758_0,hx758_1,hl758_1,hi758_1⟩ := at_T56 (Kd.V_reads' HO_0.out).2.2 0 p758 q758
             obtain rfl : ad735 = ad758 := (by injection e758)
             obtain ⟨ce758,hce758,hMe758,hcc758⟩ := Kd.V_get HO_0.out z56 0 p758 (by first|exact q758|exact dz|(have e_ := (Kd.V_reads' HO_0.out).1;omega))
             obtain ⟨ua758_1,uc758_1,rfl,ul758_1,ge758_1⟩ := k56_openF hMe758
             have hv758_1 := hcc758 1 _ rfl
             rw [add_field _ _ 1 (by omega)] at hv758_1
             replace hv758_1 := Option.some.inj (hv758_1.symm.trans hx758_1)
             injection hv758_1 with hva_ hvn_ hvc_
             rw [hva_] at ge758_1
             rw [hvc_] at ul758_1
             have HL758_1 := Aside0.mk (show Kd.V k56 56 _ w.heap.size _ _ ((rd_T56 x0_1 0).f1) from Kd.V_mk ul758_1 ge758_1)
             clear hva_ hvn_ hvc_ ge758_1 ul758_1
             clear hcc758 hce758
             have qi758 : (0 < x0_1.length) = True := eq_true (by omega)
             (try rw [show ((0 : Int)).toNat = 0 from rfl] at hx758_0)
             (try rw [show 0 * 2 = 0 from rfl] at hx758_0)
             (try rw [Addr.add_zero'] at hx758_0)
             (try rw [show ((0 : Int)).toNat = 0 from rfl] at hx758_1)
             (try rw [show 0 * 2 = 0 from rfl] at hx758_1)
             (try rw [Addr.add_zero'] at hx758_1)
             have HR758_1 := Aside0.mk hi758_1
             have HC758_1 := Aside0.mk hl758_1
             clear hi758_1 hl758_1
             replace p758 := eq_true p758
             replace q758 := eq_true q758
             have ea_ := Option.some.inj (hx756_1.symm.trans hx758_1)
             injection ea_ with ea_ en_ ec_
             subst ea_
             subst ec_
             clear en_
             refine start_ (n := 18) (S := fun w' => w'.cell? ad735 = some (.int .i64 ((rd_T56 x0_1 0).f0)) ∧ w'.cell? ⟨ad735.block,ad735.off + 1,none⟩ = some (.slice A756_1 ((rd_T56 x0_1 0).f1).length c756_1) ∧ w'.cell? ad736 = some (.int .i64 ((rd_T56 x1_1 0).f0)) ∧ w'.cell? ⟨ad736.block,ad736.off + 1,none⟩ = some (.slice A757_1 ((rd_T56 x1_1 0).f1).length c757_1) ∧ w'.cell? ad735 = some (.int .i64 ((rd_T56 x0_1 0).f0)) ∧ w'.cell? ⟨ad735.block,ad735.off + 1,none⟩ = some (.slice A756_1 ((rd_T56 x0_1 0).f1).length c756_1)) (ds := [15,16]) #[false,false,false,false,false,false,false,false,false,false,false,false,false,false,false,false,false,false] (by kernel_rfl) rfl rfl ⟨hx756_0,hx756_1,hx757_0,hx757_1,hx758_0,hx758_1⟩ (fun hHeld => ?_);refine with_tabW impl_natural.tab4 impl_natural.bits4 (fun HT_ HW_ => ?_)
             generalize w38.drew = w39 at HO_0 HO_1 HO_5 HL735_1 HL736_1 HR735_1 HR736_1 HB HL756_1 HL757_1 HL758_1 HR756_1 HR757_1 HR758_1 hx756_0 hx756_1 hx757_0 hx757_1 hx758_0 hx758_1 hHeld ⊢
             refine pure_ (i := 0) (N := some 25) (v := ?_) (a' := ?_) #[true,false,false,false,false,false,false,false,false,false,false,false,false,false,false,false,false,false] rfl rfl (any_of HT_.out (by kernel_rfl)) (fun _ _ _ h => h) (Or.inl ⟨by rfl,?_⟩) ?_ ?_
             rotate_left
             ·intro w'
              go_simp
              with_reducible rfl
             rotate_left
             ·simp only [Act.put,List.setIfInBounds_toArray,List.set_cons_zero,List.set_cons_succ,i64_w,i32_w]
              rfl
             refine pure_ (i := 1) (N := some 26) (v := ?_) (a' := ?_) #[true,true,false,false,false,false,false,false,false,false,false,false,false,false,false,false,false,false] rfl rfl (any_of HT_.out (by kernel_rfl)) (fun _ _ _ h => h) (Or.inl ⟨by rfl,?_⟩) ?_ ?_
             rotate_left
             ·intro w'
              go_simp
              with_reducible rfl
             rotate_left
             ·simp only [Act.put,List.setIfInBounds_toArray,List.set_cons_zero,List.set_cons_succ,i64_w,i32_w]
              rfl
             refine pure_ (i := 2) (N := some 27) (v := ?_) (a' := ?_) #[true,true,true,false,false,false,false,false,false,false,false,false,false,false,false,false,false,false] rfl rfl (any_of HT_.out (by kernel_rfl)) (fun _ _ _ h => h) (Or.inl ⟨by rfl,?_⟩) ?_ ?_
             rotate_left
             ·intro w'
              go_simp
              with_reducible rfl
             rotate_left
             ·simp only [Act.put,List.setIfInBounds_toArray,List.set_cons_zero,List.set_cons_succ,i64_w,i32_w]
              rfl
             refine pure_ (i := 3) (N := some 28) (v := ?_) (a' := ?_) #[true,true,true,true,false,false,false,false,false,false,false,false,false,false,false,false,false,false] rfl rfl (any_of HT_.out (by kernel_rfl)) (fun _ _ _ h => h) (Or.inl ⟨by rfl,?_⟩) ?_ ?_
             rotate_left
             ·intro w'
              go_simp
              with_reducible rfl
             rotate_left
             ·simp only [Act.put,List.setIfInBounds_toArray,List.set_cons_zero,List.set_cons_succ,i64_w,i32_w]
              rfl
             refine pure_ (i := 5) (N := some 30) (v := ?_) (a' := ?_) #[true,true,true,true,false,true,false,false,false,false,false,false,false,false,false,false,false,false] rfl rfl (any_of HT_.out (by kernel_rfl)) (fun _ _ _ h => h) (Or.inl ⟨by rfl,?_⟩) ?_ ?_
             rotate_left
             ·intro w'
              go_simp
              with_reducible rfl
             rotate_left
             ·simp only [Act.put,List.setIfInBounds_toArray,List.set_cons_zero,List.set_cons_succ,i64_w,i32_w]
              rfl
             refine pure_ (i := 6) (N := some 31) (v := ?_) (a' := ?_) #[true,true,true,true,false,true,true,false,false,false,false,false,false,false,false,false,false,false] rfl rfl (any_of HT_.out (by kernel_rfl)) (fun _ _ _ h => h) (Or.inl ⟨by rfl,?_⟩) ?_ ?_
             rotate_left
             ·intro w'
              go_simp
              with_reducible rfl
             rotate_left
             ·simp only [Act.put,List.setIfInBounds_toArray,List.set_cons_zero,List.set_cons_succ,i64_w,i32_w]
              rfl
             refine pure_ (i := 7) (N := some 32) (v := ?_) (a' := ?_) #[true,true,true,true,false,true,true,true,false,false,false,false,false,false,false,false,false,false] rfl rfl (any_of HT_.out (by kernel_rfl)) (fun _ _ _ h => h) (Or.inl ⟨by rfl,?_⟩) ?_ ?_
             rotate_left
             ·intro w'
              go_simp
              with_reducible rfl
             rotate_left
             ·simp only [Act.put,List.setIfInBounds_toArray,List.set_cons_zero,List.set_cons_succ,i64_w,i32_w]
              rfl
             refine pure_ (i := 10) (N := some 35) (v := ?_) (a' := ?_) #[true,true,true,true,false,true,true,true,false,false,true,false,false,false,false,false,false,false] rfl rfl (any_of HT_.out (by kernel_rfl)) (fun _ _ _ h => h) (Or.inl ⟨by rfl,?_⟩) ?_ ?_
             rotate_left
             ·intro w'
              go_simp
              with_reducible rfl
             rotate_left
             ·simp only [Act.put,List.setIfInBounds_toArray,List.set_cons_zero,List.set_cons_succ,i64_w,i32_w]
              rfl
             refine pure_ (i := 11) (N := some 36) (v := ?_) (a' := ?_) #[true,true,true,true,false,true,true,true,false,false,true,true,false,false,false,false,false,false] rfl rfl (any_of HT_.out (by kernel_rfl)) (fun _ _ _ h => h) (Or.inl ⟨by rfl,?_⟩) ?_ ?_
             rotate_left
             ·intro w'
              go_simp
              with_reducible rfl
             rotate_left
             ·simp only [Act.put,List.setIfInBounds_toArray,List.set_cons_zero,List.set_cons_succ,i64_w,i32_w]
              rfl
             refine pure_ (i := 12) (N := some 37) (v := ?_) (a' := ?_) #[true,true,true,true,false,true,true,true,false,false,true,true,true,false,false,false,false,false] rfl rfl (any_of HT_.out (by kernel_rfl)) (fun _ _ _ h => h) (Or.inl ⟨by rfl,?_⟩) ?_ ?_
             rotate_left
             ·intro w'
              go_simp
              with_reducible rfl
             rotate_left
             ·simp only [Act.put,List.setIfInBounds_toArray,List.set_cons_zero,List.set_cons_succ,i64_w,i32_w]
              rfl
             refine take_ (i := 4) (N := some 29) (v := ?_) (a' := ?_) #[true,true,true,true,true,true,true,true,false,false,true,true,true,false,false,false,false,false] rfl rfl (take_ofW HT_.out HW_.out (by kernel_rfl)) (fun _ _ _ h => h) (Or.inl ⟨by rfl,?_⟩) hHeld ?_ ?_
             rotate_left
             ·rintro w' ⟨s0,s1,s2,s3,s4,s5⟩
              go_simp
              with_reducible rfl
             rotate_left
             ·simp only [Act.put,List.setIfInBounds_toArray,List.set_cons_zero,List.set_cons_succ,i64_w,i32_w]
              rfl
             refine take_ (i := 8) (N := some 33) (v := ?_) (a' := ?_) #[true,true,true,true,true,true,true,true,true,false,true,true,true,false,false,false,false,false] rfl rfl (take_ofW HT_.out HW_.out (by kernel_rfl)) (fun _ _ _ h => h) (Or.inl ⟨by rfl,?_⟩) hHeld ?_ ?_
             rotate_left
             ·rintro w' ⟨s0,s1,s2,s3,s4,s5⟩
              go_simp
              with_reducible rfl
             rotate_left
             ·simp only [Act.put,List.setIfInBounds_toArray,List.set_cons_zero,List.set_cons_succ,i64_w,i32_w]
              rfl
             refine pure_ (i := 9) (N := some 34) (v := ?_) (a' := ?_) #[true,true,true,true,true,true,true,true,true,true,true,true,true,false,false,false,false,false] rfl rfl (any_of HT_.out (by kernel_rfl)) (fun _ _ _ h => h) (Or.inl ⟨by rfl,?_⟩) ?_ ?_
             rotate_left
             ·intro w'
              go_simp
              with_reducible rfl
             rotate_left
             ·simp only [Act.put,List.setIfInBounds_toArray,List.set_cons_zero,List.set_cons_succ,i64_w,i32_w]
              rfl
             refine take_ (i := 13) (N := some 38) (v := ?_) (a' := ?_) #[true,true,true,true,true,true,true,true,true,true,true,true,true,true,false,false,false,false] rfl rfl (take_ofW HT_.out HW_.out (by kernel_rfl)) (fun _ _ _ h => h) (Or.inl ⟨by rfl,?_⟩) hHeld ?_ ?_
             rotate_left
             ·rintro w' ⟨s0,s1,s2,s3,s4,s5⟩
              go_simp
              with_reducible rfl
             rotate_left
             ·simp only [Act.put,List.setIfInBounds_toArray,List.set_cons_zero,List.set_cons_succ,i64_w,i32_w]
              rfl
             refine pure_ (i := 14) (N := some 39) (v := ?_) (a' := ?_) #[true,true,true,true,true,true,true,true,true,true,true,true,true,true,true,false,false,false] rfl rfl (any_of HT_.out (by kernel_rfl)) (fun _ _ _ h => h) (Or.inl ⟨by rfl,?_⟩) ?_ ?_
             rotate_left
             ·intro w'
              go_simp
              with_reducible rfl
             rotate_left
             ·simp only [Act.put,List.setIfInBounds_toArray,List.set_cons_zero,List.set_cons_succ,i64_w,i32_w]
              rfl
             refine last_ (i := 15) (N := some 40) #[true,true,true,true,true,true,true,true,true,true,true,true,true,true,true,true,false,false] rfl rfl (one_of HT_.out (by kernel_rfl)) (by decide) (fun K hK => ?_)
             refine value_ (w1 := ?_) (v := ?_) (by rfl) rfl ?_ ?_
             rotate_left 2
             ·go_simp
              constructor
              ·rfl
              ·rfl
             refine hK.out _ _ ?_
             clear hK K
             refine norm_ (a' := ?_) ?_ ?_
             rotate_left
             ·show Act.put _ (some 40) _ = _
              simp only [Act.put,List.setIfInBounds_toArray,List.set_cons_zero,List.set_cons_succ,i64_w,i32_w]
              rfl
             refine last_ (i := 16) (N := some 41) #[true,true,true,true,true,true,true,true,true,true,true,true,true,true,true,true,true,false] rfl rfl (one_of HT_.out (by kernel_rfl)) (by decide) (fun K hK => ?_)
             refine Kd.N_append_step k56 (w0 := w) w.heap.size (by rfl) (.tmp 25) (.tmp 40) 48 56 (.agg #[(.int .i64 0),(.slice none 0 0)]) 32 rfl Try.underlying48 info56 rfl (by decide) (by omega) u5 x5_1 (⟨wrap64 (((rd_T56 x0_1 0).f0) + ((rd_T56 x1_1 0).f0)),(rd_T56 x0_1 0).f1⟩ : S56) [.int .i64 (wrap64 (((rd_T56 x0_1 0).f0) + ((rd_T56 x1_1 0).f0))),.slice A756_1 ((rd_T56 x0_1 0).f1).length c756_1] (fun k_ => ((P0_ k_ ∨ P1_ k_) ∨ w.heap.size ≤ k_)) (fun k_ => ((fun k_ => ((P0_ k_ ∨ P1_ k_) ∨ w.heap.size ≤ k_))) k_ ∧ some k_ ≠ (u5 : Value).ownBlock) rfl rfl ?aP (fun _ hk => hk) ?aF ?aO ?aB ?aS ?aL ?_
             (case aP => exact (k56_mkF _ _ (⟨wrap64 (((rd_T56 x0_1 0).f0) + ((rd_T56 x1_1 0).f0)),(rd_T56 x0_1 0).f1⟩ : S56) (Kd.V_reads' (Kd.V_mono (ok' := (fun k_ => ((fun k_ => ((P0_ k_ ∨ P1_ k_) ∨ w.heap.size ≤ k_))) k_ ∧ some k_ ≠ (u5 : Value).ownBlock)) (HL758_1.out) (fun k_ hk => ⟨hk.1,hk.2⟩))).2.1 (Kd.V_F (Kd.V_mono (ok' := (fun k_ => ((fun k_ => ((P0_ k_ ∨ P1_ k_) ∨ w.heap.size ≤ k_))) k_ ∧ some k_ ≠ (u5 : Value).ownBlock)) (HL758_1.out) (fun k_ hk => ⟨hk.1,hk.2⟩)))))
             (case aB => exact bz)
             (case aF => exact (fun k_ hk => (.inr (Nat.le_trans (below_size bz) hk))))
             (case aO => exact (Kd.Nz HO_5.out))
             (case aS => exact (below_size bz))
             (case aL => have := LMc32.out;omega)
             intro v760 w40 ho hb hg hat
             rw [← Ny759.out] at ho
             have n0_ := Aside0.mk (Kd.V_afterv (ok := (fun k_ => ((P0_ k_ ∨ P1_ k_) ∨ w.heap.size ≤ k_))) (Kd.Vz HO_0.out) hg hat)
             have n1_ := Aside0.mk (Kd.V_afterv (ok := (fun k_ => ((P0_ k_ ∨ P1_ k_) ∨ w.heap.size ≤ k_))) (Kd.Vz HO_1.out) hg hat)
             have n2_ := Aside0.mk (Kd.V_afterv (ok := (fun k_ => ((P0_ k_ ∨ P1_ k_) ∨ w.heap.size ≤ k_))) (Kd.Vz HL735_1.out) hg hat)
             have n3_ := Aside0.mk (Kd.V_afterv (ok := (fun k_ => ((P0_ k_ ∨ P1_ k_) ∨ w.heap.size ≤ k_))) (Kd.Vz HL736_1.out) hg hat)
             have n4_ := Aside0.mk (Kd.V_afterv (ok := (fun k_ => ((P0_ k_ ∨ P1_ k_) ∨ w.heap.size ≤ k_))) (Kd.Vz HL756_1.out) hg hat)
             have n5_ := Aside0.mk (Kd.V_afterv (ok := (fun k_ => ((P0_ k_ ∨ P1_ k_) ∨ w.heap.size ≤ k_))) (Kd.Vz HL757_1.out) hg hat)
             have n6_ := Aside0.mk (Kd.V_afterv (ok := (fun k_ => ((P0_ k_ ∨ P1_ k_) ∨ w.heap.size ≤ k_))) (Kd.Vz HL758_1.out) hg hat)
             have n7_ := Aside0.mk (hb)
             have n8_ := Aside0.mk (ho)
             clear HO_0
             clear HO_1
             clear HL735_1
             clear HL736_1
             clear HL756_1
             clear HL757_1
             clear HL758_1
             clear HB
             clear HO_5
             have HO_0 := n0_
             have HO_1 := n1_
             have HL735_1 := n2_
             have HL736_1 := n3_
             have HL756_1 := n4_
             have HL757_1 := n5_
             have HL758_1 := n6_
             have HB := n7_
             have HO761 := n8_
             clear n0_ n1_ n2_ n3_ n4_ n5_ n6_ n7_ n8_
             clear ho hb hg hat
             refine hK.out _ _ ?_
             clear hK K
             refine norm_ (a' := ?_) ?_ ?_
             rotate_left
             ·show Act.put _ (some 41) _ = _
              simp only [Act.put,List.setIfInBounds_toArray,List.set_cons_zero,List.set_cons_succ,i64_w,i32_w]
              rfl
             refine pure_ (i := 17) (N := some 5) (v := ?_) (a' := ?_) #[true,true,true,true,true,true,true,true,true,true,true,true,true,true,true,true,true,true] rfl rfl (any_of HT_.out (by kernel_rfl)) (fun _ _ _ h => h) (Or.inl ⟨by rfl,?_⟩) ?_ ?_
             rotate_left
             ·intro w'
              go_simp
              with_reducible rfl
             rotate_left
             ·simp only [Act.put,List.setIfInBounds_toArray,List.set_cons_zero,List.set_cons_succ,i64_w,i32_w]
              rfl
             refine done_ (done_of HT_.out (by kernel_rfl)) ?_
             try go_wp2
             have n0_ := Aside0.mk (Kd.V_drew HO_0.out)
             have n1_ := Aside0.mk (Kd.V_drew HO_1.out)
             have n2_ := Aside0.mk (Kd.V_drew HL735_1.out)
             have n3_ := Aside0.mk (Kd.V_drew HL736_1.out)
             have n4_ := Aside0.mk (Kd.V_drew HL756_1.out)
             have n5_ := Aside0.mk (Kd.V_drew HL757_1.out)
             have n6_ := Aside0.mk (Kd.V_drew HL758_1.out)
             have n7_ := Aside0.mk (Kd.N_drew HO761.out)
             have n8_ := Aside0.mk (below_drew1 HB.out)
             clear HO_0
             clear HO_1
             clear HL735_1
             clear HL736_1
             clear HL756_1
             clear HL757_1
             clear HL758_1
             clear HO761
             clear HB
             have HO_0 := n0_
             have HO_1 := n1_
             have HL735_1 := n2_
             have HL736_1 := n3_
             have HL756_1 := n4_
             have HL757_1 := n5_
             have HL758_1 := n6_
             have HO761 := n7_
             have HB := n8_
             clear n0_ n1_ n2_ n3_ n4_ n5_ n6_ n7_ n8_
             have q42 : (1 : Int) ≤ ((x0_1.length : Int) : Int) := dz
             obtain ⟨i042,hi042,_,hsz42,_⟩ := info_parts info56
             have hroom42 : x0_1.length ≤ co36 := (Kd.V_reads' HO_0.out).2.1
             have hC42 : Kd.F k56 _ _ (some ad735) x0_1.length x0_1 := (Kd.V_at (base := w.heap.size) HO_0.out).2.2
             have hcut42 := cut_from (P := Try.prog) 48 56 .i64 Try.underlying48 hi042 2 hsz42 (some ad735) x0_1.length co36 1 (by omega) q42
             have hr42 := Kd.F_cut (m := (1 : Int).toNat) (c := co36) hC42 (by omega) hroom42
             obtain ⟨A42,hA42⟩ : ∃ Aq_,Aq_ = (if co36 = (1 : Int).toNat then (some ad735) else ((some ad735) : Option Addr).map (·.add ((1 : Int).toNat * 2))) := ⟨_,rfl⟩
             obtain ⟨c42,hc42⟩ : ∃ cq_,cq_ = co36 - (1 : Int).toNat := ⟨_,rfl⟩
             have hy42 : y762.length = x0_1.length - (1 : Int).toNat := (by rw [Ny762.out,List.length_drop] <;> omega)
             rw [show (x0_1).drop (1 : Int).toNat = y762 from Ny762.out.symm] at hr42
             replace hr42 : Kd.F k56 _ _ A42 y762.length y762 := (by rw [hA42];exact hr42)
             rw [← hy42,← hA42,← hc42] at hcut42
             have HO766 := Aside0.mk (show Kd.V k56 56 _ w.heap.size _ (.slice A42 y762.length c42) y762 from Kd.V_mk (by rw [hy42,hc42];exact Nat.sub_le_sub_right hroom42 _) hr42)
             have HC766 := Aside0.mk (show y762.length ≤ c42 from by rw [hy42,hc42];exact Nat.sub_le_sub_right hroom42 _)
             clear hr42 hC42 hroom42 hi042 hsz42 hc42
             have KY42 := Aside0.mk hy42
             have KA42 := Aside0.mk hA42
             clear hy42 hA42
             replace q42 := eq_true q42
             have q43 : (1 : Int) ≤ ((x1_1.length : Int) : Int) := dz
             obtain ⟨i043,hi043,_,hsz43,_⟩ := info_parts info56
             have hroom43 : x1_1.length ≤ co37 := (Kd.V_reads' HO_1.out).2.1
             have hC43 : Kd.F k56 _ _ (some ad736) x1_1.length x1_1 := (Kd.V_at (base := w.heap.size) HO_1.out).2.2
             have hcut43 := cut_from (P := Try.prog) 48 56 .i64 Try.underlying48 hi043 2 hsz43 (some ad736) x1_1.length co37 1 (by omega) q43
             have hr43 := Kd.F_cut (m := (1 : Int).toNat) (c := co37) hC43 (by omega) hroom43
             obtain ⟨A43,hA43⟩ : ∃ Aq_,Aq_ = (if co37 = (1 : Int).toNat then (some ad736) else ((some ad736) : Option Addr).map (·.add ((1 : Int).toNat * 2))) := ⟨_,rfl⟩
             obtain ⟨c43,hc43⟩ : ∃ cq_,cq_ = co37 - (1 : Int).toNat := ⟨_,rfl⟩
             have hy43 : y767.length = x1_1.length - (1 : Int).toNat := (by rw [Ny767.out,List.length_drop] <;> omega)
             rw [show (x1_1).drop (1 : Int).toNat = y767 from Ny767.out.symm] at hr43
             replace hr43 : Kd.F k56 _ _ A43 y767.length y767 := (by rw [hA43];exact hr43)
             rw [← hy43,← hA43,← hc43] at hcut43
             have HO771 := Aside0.mk (show Kd.V k56 56 _ w.heap.size _ (.slice A43 y767.length c43) y767 from Kd.V_mk (by rw [hy43,hc43];exact Nat.sub_le_sub_right hroom43 _) hr43)
             have HC771 := Aside0.mk (show y767.length ≤ c43 from by rw [hy43,hc43];exact Nat.sub_le_sub_right hroom43 _)
             clear hr43 hC43 hroom43 hi043 hsz43 hc43
             have KY43 := Aside0.mk hy43
             have KA43 := Aside0.mk hA43
             clear hy43 hA43
             replace q43 := eq_true q43
             refine start_ (n := 6) (S := fun w' => True) (ds := []) #[false,false,false,false,false,false] (by kernel_rfl) rfl rfl trivial (fun hHeld => ?_)
             generalize w40.drew = w41 at HO_0 HO_1 HL735_1 HL736_1 HL756_1 HL757_1 HL758_1 HO761 HB HO766 HO771 hHeld ⊢
             refine pure_ (i := 0) (N := some 42) (v := ?_) (a' := ?_) #[true,false,false,false,false,false] rfl rfl (by kernel_rfl) (fun _ _ _ h => h) (Or.inl ⟨by rfl,?_⟩) ?_ ?_
             rotate_left
             ·intro w'
              go_simp
              with_reducible rfl
             rotate_left
             ·simp only [Act.put,List.setIfInBounds_toArray,List.set_cons_zero,List.set_cons_succ,i64_w,i32_w]
              rfl
             refine pure_ (i := 1) (N := some 43) (v := ?_) (a' := ?_) #[true,true,false,false,false,false] rfl rfl (by kernel_rfl) (fun _ _ _ h => h) (Or.inl ⟨by rfl,?_⟩) ?_ ?_
             rotate_left
             ·intro w'
              go_simp
              with_reducible rfl
             rotate_left
             ·simp only [Act.put,List.setIfInBounds_toArray,List.set_cons_zero,List.set_cons_succ,i64_w,i32_w]
              rfl
             refine pure_ (i := 2) (N := some 44) (v := ?_) (a' := ?_) #[true,true,true,false,false,false] rfl rfl (by kernel_rfl) (fun _ _ _ h => h) (Or.inl ⟨by rfl,?_⟩) ?_ ?_
             rotate_left
             ·intro w'
              go_simp
              with_reducible rfl
             rotate_left
             ·simp only [Act.put,List.setIfInBounds_toArray,List.set_cons_zero,List.set_cons_succ,i64_w,i32_w]
              rfl
             refine pure_ (i := 3) (N := some 45) (v := ?_) (a' := ?_) #[true,true,true,true,false,false] rfl rfl (by kernel_rfl) (fun _ _ _ h => h) (Or.inl ⟨by rfl,?_⟩) ?_ ?_
             rotate_left
             ·intro w'
              go_simp
              with_reducible rfl
             rotate_left
             ·simp only [Act.put,List.setIfInBounds_toArray,List.set_cons_zero,List.set_cons_succ,i64_w,i32_w]
              rfl
             refine pure_ (i := 4) (N := some 0) (v := ?_) (a' := ?_) #[true,true,true,true,true,false] rfl rfl (by kernel_rfl) (fun _ _ _ h => h) (Or.inl ⟨by rfl,?_⟩) ?_ ?_
             rotate_left
             ·intro w'
              go_simp
              with_reducible rfl
             rotate_left
             ·simp only [Act.put,List.setIfInBounds_toArray,List.set_cons_zero,List.set_cons_succ,i64_w,i32_w]
              rfl
             refine pure_ (i := 5) (N := some 1) (v := ?_) (a' := ?_) #[true,true,true,true,true,true] rfl rfl (by kernel_rfl) (fun _ _ _ h => h) (Or.inl ⟨by rfl,?_⟩) ?_ ?_
             rotate_left
             ·intro w'
              go_simp
              with_reducible rfl
             rotate_left
             ·simp only [Act.put,List.setIfInBounds_toArray,List.set_cons_zero,List.set_cons_succ,i64_w,i32_w]
              rfl
             refine done_ (by kernel_rfl) ?_
             try go_wp2
             go_roundg kj4
             case measure => have := HK1.out;have := HJ4.out;omega
             case rel => exact ⟨(y762),(y767),(y759),H',⟨by have := HK1.out;have := HJ4.out;omega⟩,⟨by (with_reducible repeat (first|apply Kd.V_alloc|apply Kd.V_drewN|apply Kd.V_drew));exact HO766.out⟩,⟨by (with_reducible repeat (first|apply Kd.V_alloc|apply Kd.V_drewN|apply Kd.V_drew));exact HO771.out⟩,⟨by (with_reducible repeat (first|apply Kd.N_alloc|apply Kd.N_drewN|apply Kd.N_drew));exact HO761.out⟩,⟨bz⟩⟩
            ·rw [if_neg c34] at H
             exact absurd H (by simp)
           ·rw [if_neg c33] at H
            exact absurd H (by simp)
          ·rw [if_neg c32] at H
           exact absurd H (by simp)
       ·rw [if_neg c12] at H
        exact absurd H (by simp)
      ·rw [if_neg c11] at H
       exact absurd H (by simp)
     ·replace c10 := Bool.eq_false_iff.mpr c10
      subst c10
      have H1 : (if x5_1.length + x0_1.length < 4398046511104 then ((some (x5_1 ++ x0_1 : List (S56))).bind fun y729 => (if y729.length + x1_1.length < 4398046511104 then (some (y729 ++ x1_1)) else (none))) else (none)) = some r := by rw [if_neg (show ¬ (false = true) by decide)] at H;exact H
      clear H
      have H := H1
      clear H1
      by_cases c44 : x5_1.length + x0_1.length < 4398046511104
      ·rw [if_pos c44] at H
       have LMc44 := Aside0.mk c44
       clear c44
       obtain ⟨y729,hy729⟩ : ∃ y_ : List (S56),y_ = (x5_1 ++ x0_1) := ⟨_,rfl⟩
       replace H : (if y729.length + x1_1.length < 4398046511104 then (some (y729 ++ x1_1)) else (none)) = some r := by first|(rw [hy729];with_reducible exact H)|(have H2_ := (Option.bind_some _ _).symm.trans H;rw [hy729];with_reducible exact H2_)|(have H2_ := (Option.bind_some _ _).symm.trans H;with_reducible exact H2_)|with_reducible exact H|(rw [hy729];exact H)|exact H
       have Ny729 := Aside0.mk hy729
       clear hy729
       by_cases c45 : y729.length + x1_1.length < 4398046511104
       ·rw [if_pos c45] at H
        have LMc45 := Aside0.mk c45
        clear c45
        obtain ⟨y732,hy732⟩ : ∃ y_ : List (S56),y_ = (y729 ++ x1_1) := ⟨_,rfl⟩
        replace H : (some y732) = some r := by first|(rw [hy732];with_reducible exact H)|(have H2_ := (Option.bind_some _ _).symm.trans H;rw [hy732];with_reducible exact H2_)|(have H2_ := (Option.bind_some _ _).symm.trans H;with_reducible exact H2_)|with_reducible exact H|(rw [hy732];exact H)|exact H
        have Ny732 := Aside0.mk hy732
        clear hy732
        obtain rfl := Option.some.inj H
        obtain ⟨Ao47,co47,eo47⟩ := Kd.V_slice HO_0.out
        subst eo47
        go_wp2_with (first|((with_reducible refine gate_builtin (b := .append) (xs := #[.tmp 68,.tmp 69]) rfl ?_);at_builtin;refine Kd.N_append_rows k56 (w0 := w) w.heap.size rfl (.tmp 68) (.tmp 69) 48 56 (.agg #[(.int .i64 0),(.slice none 0 0)]) 32 rfl Try.underlying48 info56 rfl (by decide) (by omega) u5 x5_1 x0_1 _ _ _ (fun k_ => ((P0_ k_ ∨ P1_ k_) ∨ w.heap.size ≤ k_)) (fun k_ => ((fun k_ => ((P0_ k_ ∨ P1_ k_) ∨ w.heap.size ≤ k_))) k_ ∧ some k_ ≠ (u5 : Value).ownBlock) rfl rfl ?aO ?aR (fun _ hk => hk) ?aF ?aB ?aS ?aL ?_;(case aR => exact (by skip;exact Kd.V_F (Kd.V_mono (ok' := (fun k_ => ((fun k_ => ((P0_ k_ ∨ P1_ k_) ∨ w.heap.size ≤ k_))) k_ ∧ some k_ ≠ (u5 : Value).ownBlock)) (HO_0.out) (fun k_ hk => ⟨hk.1,hk.2⟩))));(case aB => exact bz);(case aF => exact (fun k_ hk => (.inr (Nat.le_trans (below_size bz) hk))));(case aO => exact (Kd.Nz HO_5.out));(case aS => exact (below_size bz));(case aL => have := LMc44.out;omega);intro v730 w46 ho hb hg hat;rw [← Ny729.out] at ho;have n0_ := Aside0.mk (Kd.V_afterv (ok := (fun k_ => ((P0_ k_ ∨ P1_ k_) ∨ w.heap.size ≤ k_))) (Kd.Vz HO_0.out) hg hat);have n1_ := Aside0.mk (Kd.V_afterv (ok := (fun k_ => ((P0_ k_ ∨ P1_ k_) ∨ w.heap.size ≤ k_))) (Kd.Vz HO_1.out) hg hat);have n2_ := Aside0.mk (hb);have n3_ := Aside0.mk (ho);clear HO_0;clear HO_1;clear HB;clear HO_5;have HO_0 := n0_;have HO_1 := n1_;have HB := n2_;have HO731 := n3_;clear n0_ n1_ n2_ n3_;clear ho hb hg hat;obtain ⟨Ao49,co49,eo49⟩ := Kd.V_slice HO_1.out;subst eo49)|((with_reducible refine gate_builtin (b := .append) (xs := #[.tmp 70,.tmp 71]) rfl ?_);at_builtin;refine Kd.N_append_rows k56 (w0 := w) w.heap.size rfl (.tmp 70) (.tmp 71) 48 56 (.agg #[(.int .i64 0),(.slice none 0 0)]) 32 rfl Try.underlying48 info56 rfl (by decide) (by omega) v730 y729 x1_1 _ _ _ (fun k_ => ((P0_ k_ ∨ P1_ k_) ∨ w.heap.size ≤ k_)) (fun k_ => ((fun k_ => ((P0_ k_ ∨ P1_ k_) ∨ w.heap.size ≤ k_))) k_ ∧ some k_ ≠ (v730 : Value).ownBlock) rfl rfl ?aO ?aR (fun _ hk => hk) ?aF ?aB ?aS ?aL ?_;(case aR => exact (by skip;exact Kd.V_F (Kd.V_mono (ok' := (fun k_ => ((fun k_ => ((P0_ k_ ∨ P1_ k_) ∨ w.heap.size ≤ k_))) k_ ∧ some k_ ≠ (v730 : Value).ownBlock)) (HO_1.out) (fun k_ hk => ⟨hk.1,hk.2⟩))));(case aB => exact bz);(case aF => exact (fun k_ hk => (.inr (Nat.le_trans (below_size bz) hk))));(case aO => exact (Kd.Nz HO731.out));(case aS => exact (below_size bz));(case aL => have := LMc45.out;omega);intro v733 w48 ho hb hg hat;rw [← Ny732.out] at ho;have n0_ := Aside0.mk (Kd.V_afterv (ok := (fun k_ => ((P0_ k_ ∨ P1_ k_) ∨ w.heap.size ≤ k_))) (Kd.Vz HO_0.out) hg hat);have n1_ := Aside0.mk (Kd.V_afterv (ok := (fun k_ => ((P0_ k_ ∨ P1_ k_) ∨ w.heap.size ≤ k_))) (Kd.Vz HO_1.out) hg hat);have n2_ := Aside0.mk (hb);have n3_ := Aside0.mk (ho);clear HO_0;clear HO_1;clear HB;clear HO731;have HO_0 := n0_;have HO_1 := n1_;have HB := n2_;have HO734 := n3_;clear n0_ n1_ n2_ n3_;clear ho hb hg hat))
        go_ret
        exact ⟨_,by first|rfl|(simp [errW_none,errW_some] <;> rfl)|(simp [*,errW_none,errW_some] <;> rfl),by (with_reducible repeat (first|apply Kd.N_alloc|apply Kd.N_drewN|apply Kd.N_drew));exact HO734.out,bz⟩
       ·rw [if_neg c45] at H
        exact absurd H (by simp)
      ·rw [if_neg c44] at H
       exact absurd H (by simp)

end Go.Proofs.Ytninfokihgbgpaa.P
