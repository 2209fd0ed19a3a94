/- The walk of one Go function that the law reaches: it comes to what the Lean function of its name tells. -/
import Derived.Test.YtpgkpahhohfmhaaP0
import Derived.Test.YtpgkpahhohfmhaaPspecl1Make
namespace Go.Proofs.Ytpgkpahhohfmhaa.P
open Go.RowKit Go.Proofs.YtpgkpahhohfmhaaW.PrintWords Go.Proofs.YtpgkpahhohfmhaaW.PrintLast Go.Proofs.YtpgkpahhohfmhaaW.PrintMore
attribute [local go_sem] max2_int min2_int max_two min_two max_three min_three max_four min_four   
set_option linter.unusedVariables false
set_option linter.unusedSimpArgs false

/-! ### spec_l4Ord: function 52 -/
mutual
def spec_l4Ord.l0 : Nat → Int → Int → List Int → List (List Int) → Option (List Int)
 | 0,_,_,_,_ => none
 | k + 1,x0,x1,x5,x6 => if x0 > 0 then (spec_l4Ord.l1 k x0 x1 x5 x6 1 0) else ((spec_l1Make.f k x5 x6).bind fun t216 => (some t216))
def spec_l4Ord.l1 : Nat → Int → Int → List Int → List (List Int) → Int → Int → Option (List Int)
 | 0,_,_,_,_,_,_ => none
 | k + 1,x0,x1,x5,x6,x7,x8 => if x1 = 0 then (none) else (if x7 ≤ (wrap64 (Int.tdiv x0 x1)) then (spec_l4Ord.l1 k x0 x1 x5 x6 (wrap64 (x7 * x1)) (wrap64 (x8 + 1))) else (if x7 = 0 then (none) else (if x5.length < 17592186044416 then ((spec_l4Ord.f k x8 x1).bind fun t222 => (if x6.length < 5864062014805 then (spec_l4Ord.l0 k (Int.tmod x0 x7) x1 (x5 ++ [wrap64 (Int.tdiv x0 x7)]) (x6 ++ [t222])) else (none))) else (none))))
def spec_l4Ord.f : Nat → Int → Int → Option (List Int)
 | 0,_,_ => none
 | k + 1,a0,a1 => spec_l4Ord.l0 k a0 a1 (([] : List Int)) (([] : List (List Int)))
end
theorem spec_l4Ord.mono_l : ∀ k,(∀ y0 y1,LeO (spec_l4Ord.f k y0 y1) (spec_l4Ord.f (k + 1) y0 y1)) ∧ (∀ y0 y1 y2 y3,LeO (spec_l4Ord.l0 k y0 y1 y2 y3) (spec_l4Ord.l0 (k + 1) y0 y1 y2 y3)) ∧ (∀ y0 y1 y2 y3 y4 y5,LeO (spec_l4Ord.l1 k y0 y1 y2 y3 y4 y5) (spec_l4Ord.l1 (k + 1) y0 y1 y2 y3 y4 y5))
 | 0 => ⟨fun _ _ r h => by simp [spec_l4Ord.f] at h,fun _ _ _ _ r h => by simp [spec_l4Ord.l0] at h,fun _ _ _ _ _ _ r h => by simp [spec_l4Ord.l1] at h⟩
 | k + 1 => by
  obtain ⟨ih0,ih1,ih2⟩ := spec_l4Ord.mono_l k
  refine ⟨?_,?_,?_⟩
  ·intro y0 y1
   unfold spec_l4Ord.f
   repeat' first|(with_reducible first|exact ih0 _ _|exact ih1 _ _ _ _|exact LeO.refl _|exact LeO.none _|refine LeO.ite ?_ ?_|refine LeO.bind ?_ (fun _ => ?_))|exact ih0 _ _|exact ih1 _ _ _ _|exact LeO.none _|refine LeO.ite ?_ ?_|refine LeO.bind ?_ (fun _ => ?_)
  ·intro y0 y1 y2 y3
   unfold spec_l4Ord.l0
   repeat' first|(with_reducible first|exact ih1 _ _ _ _|exact ih2 _ _ _ _ _ _|exact spec_l1Make.mono _ _ _|exact LeO.refl _|exact LeO.none _|refine LeO.ite ?_ ?_|refine LeO.bind ?_ (fun _ => ?_))|exact ih1 _ _ _ _|exact ih2 _ _ _ _ _ _|exact spec_l1Make.mono _ _ _|exact LeO.none _|refine LeO.ite ?_ ?_|refine LeO.bind ?_ (fun _ => ?_)
  ·intro y0 y1 y2 y3 y4 y5
   unfold spec_l4Ord.l1
   repeat' first|(with_reducible first|exact ih0 _ _|exact ih1 _ _ _ _|exact ih2 _ _ _ _ _ _|exact LeO.refl _|exact LeO.none _|refine LeO.ite ?_ ?_|refine LeO.bind ?_ (fun _ => ?_))|exact ih0 _ _|exact ih1 _ _ _ _|exact ih2 _ _ _ _ _ _|exact LeO.none _|refine LeO.ite ?_ ?_|refine LeO.bind ?_ (fun _ => ?_)
theorem spec_l4Ord.mono : ∀ a0 a1 k,LeO (spec_l4Ord.f k a0 a1) (spec_l4Ord.f (k + 1) a0 a1) := by
 intro a0 a1 k
 obtain ⟨ih0,ih1,ih2⟩ := spec_l4Ord.mono_l k
 exact ih0 a0 a1
set_option maxHeartbeats 8000000 in
set_option maxRecDepth 100000 in
theorem spec_l4Ord.calls (k : Nat) : ∀ (a0 : Int) (a1 : Int) (r : List Int) (w : World) (h : spec_l4Ord.f k a0 a1 = some r),
  Calls Try.prog 52 #[.int .i64 a0,.int .i64 a1] w fun e w' => ∃ v0_ : Value,e = .returned (v0_) ∧ Kd.R (Kd.int .i64) 3 w' w.heap.size (fun _ => True) v0_ r ∧ Below w.heap.size w w' := by
 induction k using Nat.strongRecOn with
 | _ k ih =>
 intro a0 a1 r w h
 cases k with
 | zero => exact absurd h (by simp [spec_l4Ord.f])
 | succ k =>
 simp only [spec_l4Ord.f] at h
 have HB := Aside0.mk (Below.refl w.heap.size w)
 have H : (spec_l4Ord.l0 k a0 a1 (([] : List Int)) (([] : List (List Int)))) = some r := h
 clear h
 obtain ⟨y210,hy210⟩ : ∃ y_ : List Int,y_ = (([] : List Int)) := ⟨_,rfl⟩
 replace H : (spec_l4Ord.l0 k a0 a1 y210 (([] : List (List Int)))) = some r := by first|(rw [hy210];with_reducible exact H)|(have H2_ := (Option.bind_some _ _).symm.trans H;rw [hy210];with_reducible exact H2_)|(have H2_ := (Option.bind_some _ _).symm.trans H;with_reducible exact H2_)|with_reducible exact H|(rw [hy210];exact H)|exact H
 have Ny210 := Aside0.mk hy210
 clear hy210
 obtain ⟨y213,hy213⟩ : ∃ y_ : List (List Int),y_ = (([] : List (List Int))) := ⟨_,rfl⟩
 replace H : (spec_l4Ord.l0 k a0 a1 y210 y213) = some r := by first|(rw [hy213];with_reducible exact H)|(have H2_ := (Option.bind_some _ _).symm.trans H;rw [hy213];with_reducible exact H2_)|(have H2_ := (Option.bind_some _ _).symm.trans H;with_reducible exact H2_)|with_reducible exact H|(rw [hy213];exact H)|exact H
 have Ny213 := Aside0.mk hy213
 clear hy213
 have H' := Aside0.mk H
 clear H
 go_enter Try.func52,Try.ntmps52
 go_wp2_with (first|((with_reducible refine gate_dst (N := 9) rfl ?_);refine Kd.R_lit (Kd.int .i64) _ 3 ?hg (N := 9) ?hd (xs := ([] : List Int)) (inner := []) (ok := fun _ => True) (okp := fun _ => True) ?hr ?hp (fun _ hk => hk) trivial (Below.refl _ _) (Nat.le_refl _) (by simp) ?_;(case hd => rfl);(case hg => rfl);(case hr => first|(go_simp;done)|(go_simp;rfl));(case hp => exact (Reps.none _ _));intro v211 w3 ho4 hb hg_ hnew_;clear hg_ hnew_;(first|rw [← Ny210.out] at ho4|(simp only [Int.reduceToNat] at ho4;rw [← Ny210.out] at ho4));have n0_ := Aside0.mk (Kd.R_lower ho4 (below_size bz));have n1_ := Aside0.mk (below_step bz hb);clear HB;have HO212 := n0_;have HB := n1_;clear n0_ n1_;clear hb ho4)|((with_reducible refine gate_dst (N := 10) rfl ?_);refine Kd.S_lit (Kd.slice 3 (Kd.int .i64)) _ 25 ?hg (N := 10) ?hd (xs := ([] : List (List Int))) (inner := []) (ok := fun _ => True) (okp := fun _ => True) ?hr ?hp (fun _ hk => hk) trivial (Below.refl _ _) (Nat.le_refl _) (by simp) ?_;(case hd => rfl);(case hg => rfl);(case hr => first|(go_simp;done)|(go_simp;rfl));(case hp => exact (Reps.none _ _));intro v214 w5 ho6 hb hg_ hnew_;clear hg_ hnew_;(first|rw [← Ny213.out] at ho6|(simp only [Int.reduceToNat] at ho6;rw [← Ny213.out] at ho6));have n0_ := Aside0.mk (Kd.R_below (Kd.Rz HO212.out) hb);have n1_ := Aside0.mk (Kd.S_lower (Kd.S_new' ho6 (Kd.R_lt (Kd.Rz HO212.out))) (below_size bz));have n2_ := Aside0.mk (below_step bz hb);clear HO212;clear HB;have HO212 := n0_;have HO215 := n1_;have HB := n2_;clear n0_ n1_ n2_;clear hb ho6))
 go_loopg [0,5,6] k (fun kq v0 v5 v6 w' => ∃ (x0_1 : Int) (x5_1 : List Int) (x6_1 : List (List Int)),v0 = .int .i64 x0_1 ∧ Aside0 (spec_l4Ord.l0 kq x0_1 a1 x5_1 x6_1 = some r) ∧ Aside0 (kq ≤ k) ∧ Aside0 (Kd.R (Kd.int .i64) 3 w' w.heap.size (fun _ => True) v5 x5_1) ∧ Aside0 (Kd.S (Kd.slice 3 (Kd.int .i64)) 25 w' w.heap.size (fun k_ => some k_ ≠ (v5 : Value).ownBlock) v6 x6_1) ∧ Aside0 (Below w.heap.size w w'))
 case atStart => exact ⟨(a0),(y210),(y213),(by first|rfl|(simp;done)|(simp [*];done)),H',⟨Nat.le_refl _⟩,⟨by (with_reducible repeat (first|apply Kd.R_alloc|apply Kd.R_drewN|apply Kd.R_drew));exact HO212.out⟩,⟨by (with_reducible repeat (first|apply Kd.S_alloc|apply Kd.S_drewN|apply Kd.S_drew));exact Kd.S_mono HO215.out (fun _ hk => hk.2)⟩,⟨bz⟩⟩
 case round =>
  clear H'
  try clear p2
  try clear c5
  obtain ⟨x0_1,x5_1,x6_1,rfl,HA,HK1,HO_5,HO_6,HB⟩ := hrel
  cases gk with
  | zero => exact absurd HA.out (by simp [spec_l4Ord.l0])
  | succ k1 =>
   have H := HA.out
   clear HA
   simp only [spec_l4Ord.l0] at H
   by_cases c7 : x0_1 > 0
   ·rw [if_pos c7] at H
    have c7b0 : decide (0 < x0_1) = true := decide_eq_true c7
    clear c7
    have H' := Aside0.mk H
    clear H
    go_wp2
    go_loopg [7,8] k1 (fun kq v7 v8 w' => ∃ (x7_2 : Int) (x8_2 : Int),v7 = .int .i64 x7_2 ∧ v8 = .int .i64 x8_2 ∧ Aside0 (spec_l4Ord.l1 kq x0_1 a1 x5_1 x6_1 x7_2 x8_2 = some r) ∧ Aside0 (kq ≤ k1) ∧ Aside0 (Kd.R (Kd.int .i64) 3 w' w.heap.size (fun _ => True) u5 x5_1) ∧ Aside0 (Kd.S (Kd.slice 3 (Kd.int .i64)) 25 w' w.heap.size (fun k_ => some k_ ≠ (u5 : Value).ownBlock) u6 x6_1) ∧ Aside0 (Below w.heap.size w w'))
    case atStart => exact ⟨(1),(0),(by first|rfl|(simp;done)|(simp [*];done)),(by first|rfl|(simp;done)|(simp [*];done)),H',⟨Nat.le_refl _⟩,⟨by (with_reducible repeat (first|apply Kd.R_alloc|apply Kd.R_drewN|apply Kd.R_drew));exact HO_5.out⟩,⟨by (with_reducible repeat (first|apply Kd.S_alloc|apply Kd.S_drewN|apply Kd.S_drew));exact HO_6.out⟩,⟨bz⟩⟩
    case round =>
     clear H'
     try clear p2
     try clear c5
     try clear c7
     try clear c7b0
     try clear p2
     obtain ⟨x7_2,x8_2,rfl,rfl,HA,HK2,HO_5,HO_6,HB⟩ := hrel
     cases gk with
     | zero => exact absurd HA.out (by simp [spec_l4Ord.l1])
     | succ k2 =>
      have H := HA.out
      clear HA
      simp only [spec_l4Ord.l1] at H
      by_cases c8 : a1 = 0
      ·rw [if_pos c8] at H
       exact absurd H (by simp)
      ·rw [if_neg c8] at H
       have c8b0 : (a1 == 0) = false := beq_eq_false_iff_ne.mpr c8
       have c8b1 : (a1 != 0) = true := bne_iff_ne.mpr c8
       by_cases c9 : x7_2 ≤ (wrap64 (Int.tdiv x0_1 a1))
       ·rw [if_pos c9] at H
        have c9b0 : decide (x7_2 ≤ (wrap64 (Int.tdiv x0_1 a1))) = true := decide_eq_true c9
        clear c9
        have H' := Aside0.mk H
        clear H
        go_wp2
        go_roundg k2
        case measure => have := HK1.out;have := HK2.out;omega
        case rel => exact ⟨(wrap64 (x7_2 * a1)),(wrap64 (x8_2 + 1)),(by first|rfl|(simp;done)|(simp [*];done)),(by first|rfl|(simp;done)|(simp [*];done)),H',⟨by have := HK1.out;have := HK2.out;omega⟩,⟨by (with_reducible repeat (first|apply Kd.R_alloc|apply Kd.R_drewN|apply Kd.R_drew));exact HO_5.out⟩,⟨by (with_reducible repeat (first|apply Kd.S_alloc|apply Kd.S_drewN|apply Kd.S_drew));exact HO_6.out⟩,⟨bz⟩⟩
       ·rw [if_neg c9] at H
        have c9b0 : decide (x7_2 ≤ (wrap64 (Int.tdiv x0_1 a1))) = false := decide_eq_false c9
        clear c9
        by_cases c10 : x7_2 = 0
        ·rw [if_pos c10] at H
         exact absurd H (by simp)
        ·rw [if_neg c10] at H
         have c10b0 : (x7_2 == 0) = false := beq_eq_false_iff_ne.mpr c10
         have c10b1 : (x7_2 != 0) = true := bne_iff_ne.mpr c10
         by_cases c11 : x5_1.length < 17592186044416
         ·rw [if_pos c11] at H
          have LMc11 := Aside0.mk c11
          clear c11
          obtain ⟨y219,hy219⟩ : ∃ y_ : List Int,y_ = (x5_1 ++ [wrap64 (Int.tdiv x0_1 x7_2)]) := ⟨_,rfl⟩
          replace H : ((spec_l4Ord.f k2 x8_2 a1).bind fun t222 => (if x6_1.length < 5864062014805 then (spec_l4Ord.l0 k2 (Int.tmod x0_1 x7_2) a1 y219 (x6_1 ++ [t222])) else (none))) = some r := by first|(rw [hy219];with_reducible exact H)|(have H2_ := (Option.bind_some _ _).symm.trans H;rw [hy219];with_reducible exact H2_)|(have H2_ := (Option.bind_some _ _).symm.trans H;with_reducible exact H2_)|with_reducible exact H|(rw [hy219];exact H)|exact H
          have Ny219 := Aside0.mk hy219
          clear hy219
          replace H := Option.bind_eq_some_iff.mp H
          obtain ⟨t222,A120,H⟩ := H
          replace H : (if x6_1.length < 5864062014805 then (spec_l4Ord.l0 k2 (Int.tmod x0_1 x7_2) a1 y219 (x6_1 ++ [t222])) else (none)) = some r := H
          have A12 := Aside0.mk A120
          clear A120
          by_cases c13 : x6_1.length < 5864062014805
          ·rw [if_pos c13] at H
           have LMc13 := Aside0.mk c13
           clear c13
           obtain ⟨y225,hy225⟩ : ∃ y_ : List (List Int),y_ = (x6_1 ++ [t222]) := ⟨_,rfl⟩
           replace H : (spec_l4Ord.l0 k2 (Int.tmod x0_1 x7_2) a1 y219 y225) = some r := by first|(rw [hy225];with_reducible exact H)|(have H2_ := (Option.bind_some _ _).symm.trans H;rw [hy225];with_reducible exact H2_)|(have H2_ := (Option.bind_some _ _).symm.trans H;with_reducible exact H2_)|with_reducible exact H|(rw [hy225];exact H)|exact H
           have Ny225 := Aside0.mk hy225
           clear hy225
           have H' := Aside0.mk H
           clear H
           go_wp2_with (first|((with_reducible refine gate_builtin (b := .append) (xs := #[.tmp 23,.tmp 27]) rfl ?_);at_builtin;refine Kd.R_append (Kd.int .i64) (w0 := w) w.heap.size rfl (.tmp 23) (.tmp 27) 25 3 (.int .i64 0) 8 rfl Try.underlying25 info3 rfl (by decide) (by omega) u5 x5_1 (wrap64 (Int.tdiv x0_1 x7_2)) [.int .i64 (wrap64 (Int.tdiv x0_1 x7_2))] (fun _ => True) (fun _ => False) rfl rfl ?aP (fun _ hk => hk.elim) ?aF ?aO ?aB ?aS ?aL ?_;(case aP => exact rfl);(case aB => exact bz);(case aF => exact (fun _ _ => trivial));(case aO => exact (Kd.Rz HO_5.out));(case aS => exact (below_size bz));(case aL => have := LMc11.out;omega);intro v220 w14 ho hb hg hat;rw [← Ny219.out] at ho;have n0_ := Aside0.mk (Kd.S_after (ok := (fun _ => True)) (by (with_reducible repeat (first|apply Kd.S_alloc|apply Kd.S_drewN|apply Kd.S_drew));exact Kd.S_mono HO_6.out (fun _ hk => ⟨trivial,hk⟩)) hg hat);have n1_ := Aside0.mk (hb);have n2_ := Aside0.mk (ho);clear HO_6;clear HB;clear HO_5;have HO_6 := n0_;have HB := n1_;have HO221 := n2_;clear n0_ n1_ n2_;clear ho hb hg hat)|((with_reducible refine gate_callee (f := 52) rfl ?_);refine goesL_ (some 32) rfl rfl Try.func52 (by kernel_rfl) rfl #[.int .i64 x8_2,.int .i64 a1] rfl az ?_;(with_reducible refine (ih k2 (by have := HK1.out;have := HK2.out;omega) x8_2 a1 t222 _ A12.out).mono ?_);rintro e w15 ⟨v223,rfl,ho0,hb⟩;refine ⟨_,rfl,?_⟩;have n0_ := Aside0.mk (Kd.S_elder' (by (with_reducible repeat (first|apply Kd.S_alloc|apply Kd.S_drewN|apply Kd.S_drew));exact HO_6.out) (Kd.R_base ho0) hb);have n1_ := Aside0.mk (Kd.R_elder' (Kd.Rz HO221.out) (Kd.R_base ho0) hb);have n2_ := Aside0.mk (Kd.R_lower (Kd.R_new' ho0 (Kd.R_lt (Kd.Rz HO221.out))) (below_size bz));have n3_ := Aside0.mk (below_step bz hb);clear HO_6;clear HO221;clear HB;have HO_6 := n0_;have HO221 := n1_;have HO224 := n2_;have HB := n3_;clear n0_ n1_ n2_ n3_;(try clear hb);(try clear hb2);(try clear hk);(try clear hi);(try clear ho0);obtain ⟨Ao17,co17,eo17⟩ := Kd.R_slice HO224.out;subst eo17)|((with_reducible refine gate_builtin (b := .append) (xs := #[.tmp 29,.tmp 33]) rfl ?_);at_builtin;refine Kd.S_append (Kd.slice 3 (Kd.int .i64)) (w0 := w) w.heap.size rfl (.tmp 29) (.tmp 33) 46 25 (.slice none 0 0) 24 rfl Try.underlying46 info25 rfl (by decide) (by omega) u6 x6_1 t222 [.slice Ao17 t222.length co17] (fun k_ => some k_ ≠ (v220 : Value).ownBlock) (fun k_ => some k_ = (.slice Ao17 t222.length co17 : Value).ownBlock) rfl rfl ?aP (fun k_ hk_ => ((Kd.R_mono (ok' := fun k_ => ((fun k_ => some k_ ≠ (v220 : Value).ownBlock)) k_ ∧ some k_ ≠ (u6 : Value).ownBlock) (Kd.R_apart' (HO224.out) (Kd.S_typed HO_6.out) (by decide)) (fun k_ hk => ⟨hk.1.2,hk.2⟩))).1 k_ hk_.symm) ?aF ?aO ?aB ?aS ?aL ?_;(case aP => exact Kd.M_row (Kd.R_mono (Kd.R_tight rfl (Kd.R_mono (ok' := fun k_ => ((fun k_ => some k_ ≠ (v220 : Value).ownBlock)) k_ ∧ some k_ ≠ (u6 : Value).ownBlock) (Kd.R_apart' (HO224.out) (Kd.S_typed HO_6.out) (by decide)) (fun k_ hk => ⟨hk.1.2,hk.2⟩))) (fun _ h_ => h_)));(case aB => exact bz);(case aF => exact (fun k_ hk => Kd.fresh' (Kd.R_lt (Kd.Rz HO221.out)) k_ hk));(case aO => exact (by (with_reducible repeat (first|apply Kd.S_alloc|apply Kd.S_drewN|apply Kd.S_drew));exact Kd.S_mono HO_6.out (fun k_ hk => ⟨hk.1.2,fun e_ => hk.2 e_⟩)));(case aS => exact (below_size bz));(case aL => have := LMc13.out;omega);intro v226 w16 ho hb hg hat;rw [← Ny225.out] at ho;have n0_ := Aside0.mk (Kd.R_over' (Kd.Rz HO221.out) (Kd.S_typed (by (with_reducible repeat (first|apply Kd.S_alloc|apply Kd.S_drewN|apply Kd.S_drew));exact HO_6.out)) (by decide) hg);have n1_ := Aside0.mk (hb);have n2_ := Aside0.mk (ho);clear HO221;clear HB;clear HO_6;clear HO224;have HO221 := n0_;have HB := n1_;have HO227 := n2_;clear n0_ n1_ n2_;clear ho hb hg hat))
           go_roundg k2
           case measure => have := HK1.out;have := HK2.out;omega
           case rel => exact ⟨(Int.tmod x0_1 x7_2),(y219),(y225),(by first|rfl|(simp;done)|(simp [*];done)),H',⟨by have := HK1.out;have := HK2.out;omega⟩,⟨by (with_reducible repeat (first|apply Kd.R_alloc|apply Kd.R_drewN|apply Kd.R_drew));exact Kd.R_mono HO221.out (fun _ hk => trivial)⟩,⟨by (with_reducible repeat (first|apply Kd.S_alloc|apply Kd.S_drewN|apply Kd.S_drew));exact HO227.out⟩,⟨bz⟩⟩
          ·rw [if_neg c13] at H
           exact absurd H (by simp)
         ·rw [if_neg c11] at H
          exact absurd H (by simp)
   ·rw [if_neg c7] at H
    have c7b0 : decide (0 < x0_1) = false := decide_eq_false c7
    clear c7
    replace H := Option.bind_eq_some_iff.mp H
    obtain ⟨t216,A180,H⟩ := H
    replace H : (some t216) = some r := H
    have A18 := Aside0.mk A180
    clear A180
    obtain rfl := Option.some.inj H
    obtain ⟨Ao19,co19,eo19⟩ := Kd.R_slice HO_5.out
    subst eo19
    obtain ⟨Ao20,co20,eo20⟩ := Kd.S_slice HO_6.out
    subst eo20
    go_wp2_with (first|((with_reducible refine gate_callee (f := 61) rfl ?_);refine goesL_ (some 40) rfl rfl Try.func61 (by kernel_rfl) rfl #[.slice Ao19 x5_1.length co19,.slice Ao20 x6_1.length co20] rfl az ?_;(with_reducible refine (spec_l1Make.calls k1 _ _ x5_1 _ _ x6_1 t216 _ ?side1 ?side2 ?side3 ?side4 A18.out).mono ?_);(case side1 => exact Kd.Cz (Kd.R_reads' HO_5.out).2.2);(case side2 => exact (Kd.R_reads' HO_5.out).2.1);(case side3 => repeat (first|exact (Kd.S_reads' HO_6.out).2.2|(with_reducible refine Kd.C_alloc ?_ _)|(with_reducible refine Kd.C_drewN ?_ _)|(with_reducible refine Kd.C_drew ?_)));(case side4 => exact (Kd.S_reads' HO_6.out).2.1);rintro e w21 ⟨v217,rfl,ho0,hb⟩;refine ⟨_,rfl,?_⟩;have n0_ := Aside0.mk (Kd.R_elder' (Kd.Rz HO_5.out) (Kd.R_base ho0) hb);have n1_ := Aside0.mk (Kd.S_elder' (by (with_reducible repeat (first|apply Kd.S_alloc|apply Kd.S_drewN|apply Kd.S_drew));exact HO_6.out) (Kd.R_base ho0) hb);have n2_ := Aside0.mk (Kd.R_lower (Kd.R_new' ho0 (Kd.R_lt (Kd.Rz HO_5.out))) (below_size bz));have n3_ := Aside0.mk (below_step bz hb);clear HO_5;clear HO_6;clear HB;have HO_5 := n0_;have HO_6 := n1_;have HO218 := n2_;have HB := n3_;clear n0_ n1_ n2_ n3_;(try clear hb);(try clear hb2);(try clear hk);(try clear hi);(try clear ho0)))
    go_ret
    exact ⟨_,by first|rfl|(simp [errW_none,errW_some] <;> rfl)|(simp [*,errW_none,errW_some] <;> rfl),by (with_reducible repeat (first|apply Kd.R_alloc|apply Kd.R_drewN|apply Kd.R_drew));exact Kd.R_mono HO218.out (fun _ hk => trivial),bz⟩

end Go.Proofs.Ytpgkpahhohfmhaa.P
