/- The walk of one Go function that the law reaches: it comes to what the Lean function of its name tells. -/
import Derived.Test.YtpgkpahhohfmhaaP0
import Derived.Test.YtpgkpahhohfmhaaPspecOrdOf
import Derived.Test.YtpgkpahhohfmhaaPspecl1In
import Derived.Test.YtpgkpahhohfmhaaPspecl1Make
namespace Go.Proofs.Ytpgkpahhohfmhaa.P
open Go.RowKit Go.Proofs.YtpgkpahhohfmhaaW.PrintWords Go.Proofs.YtpgkpahhohfmhaaW.PrintLast Go.Proofs.YtpgkpahhohfmhaaW.PrintMore
attribute [local go_sem] max2_int min2_int max_two min_two max_three min_three max_four min_four   
set_option linter.unusedVariables false
set_option linter.unusedSimpArgs false

/-! ### spec_PlainOrd: function 22 -/
mutual
def spec_PlainOrd.j0 : Nat → Int → Int → Bool → Option (List Int)
 | 0,_,_,_ => none
 | k + 1,x0,x1,x16 => if x16 = true then (some (([] : List Int))) else (spec_PlainOrd.l0 k x0 x1 (([] : List Int)) (([] : List (List Int))))
def spec_PlainOrd.l0 : Nat → Int → Int → List Int → List (List Int) → Option (List Int)
 | 0,_,_,_,_ => none
 | k + 1,x0,x1,x5,x6 => if x0 > 0 then (spec_PlainOrd.l1 k x0 x1 x5 x6 1 0) else ((spec_l1Make.f k x5 x6).bind fun t404 => (if (t404.length : Int) > 60 then (some (([] : List Int))) else ((spec_l1Make.f k x5 x6).bind fun t410 => (some t410))))
def spec_PlainOrd.l1 : Nat → Int → Int → List Int → List (List Int) → Int → Int → Option (List Int)
 | 0,_,_,_,_,_,_ => none
 | k + 1,x0,x1,x5,x6,x7,x8 => if x1 = 0 then (none) else (if x7 ≤ (wrap64 (Int.tdiv x0 x1)) then (spec_PlainOrd.l1 k x0 x1 x5 x6 (wrap64 (x7 * x1)) (wrap64 (x8 + 1))) else (if x7 = 0 then (none) else (if x5.length < 17592186044416 then ((spec_OrdOf.f x8).bind fun t398 => (if x6.length < 5864062014805 then (spec_PlainOrd.l0 k (Int.tmod x0 x7) x1 (x5 ++ [wrap64 (Int.tdiv x0 x7)]) (x6 ++ [t398])) else (none))) else (none))))
end
def spec_PlainOrd.f (k : Nat) (a0 : Int) (a1 : Int) : Option (List Int) := (spec_l1In.f a0 0 1000000000).bind fun t384 => (if t384 = true then ((spec_l1In.f a1 2 90).bind fun t385 => (spec_PlainOrd.j0 k a0 a1 (!t385))) else (spec_PlainOrd.j0 k a0 a1 true))
theorem spec_PlainOrd.mono_l : ∀ k,(∀ y0 y1 y2,LeO (spec_PlainOrd.j0 k y0 y1 y2) (spec_PlainOrd.j0 (k + 1) y0 y1 y2)) ∧ (∀ y0 y1 y2 y3,LeO (spec_PlainOrd.l0 k y0 y1 y2 y3) (spec_PlainOrd.l0 (k + 1) y0 y1 y2 y3)) ∧ (∀ y0 y1 y2 y3 y4 y5,LeO (spec_PlainOrd.l1 k y0 y1 y2 y3 y4 y5) (spec_PlainOrd.l1 (k + 1) y0 y1 y2 y3 y4 y5))
 | 0 => ⟨fun _ _ _ r h => by simp [spec_PlainOrd.j0] at h,fun _ _ _ _ r h => by simp [spec_PlainOrd.l0] at h,fun _ _ _ _ _ _ r h => by simp [spec_PlainOrd.l1] at h⟩
 | k + 1 => by
  obtain ⟨ih0,ih1,ih2⟩ := spec_PlainOrd.mono_l k
  refine ⟨?_,?_,?_⟩
  ·intro y0 y1 y2
   unfold spec_PlainOrd.j0
   repeat' first|(with_reducible first|exact ih0 _ _ _|exact ih1 _ _ _ _|exact LeO.refl _|exact LeO.none _|refine LeO.ite ?_ ?_|refine LeO.bind ?_ (fun _ => ?_))|exact ih0 _ _ _|exact ih1 _ _ _ _|exact LeO.none _|refine LeO.ite ?_ ?_|refine LeO.bind ?_ (fun _ => ?_)
  ·intro y0 y1 y2 y3
   unfold spec_PlainOrd.l0
   repeat' first|(with_reducible first|exact ih1 _ _ _ _|exact ih2 _ _ _ _ _ _|exact spec_l1Make.mono _ _ _|exact LeO.refl _|exact LeO.none _|refine LeO.ite ?_ ?_|refine LeO.bind ?_ (fun _ => ?_))|exact ih1 _ _ _ _|exact ih2 _ _ _ _ _ _|exact spec_l1Make.mono _ _ _|exact LeO.none _|refine LeO.ite ?_ ?_|refine LeO.bind ?_ (fun _ => ?_)
  ·intro y0 y1 y2 y3 y4 y5
   unfold spec_PlainOrd.l1
   repeat' first|(with_reducible first|exact ih1 _ _ _ _|exact ih2 _ _ _ _ _ _|exact LeO.refl _|exact LeO.none _|refine LeO.ite ?_ ?_|refine LeO.bind ?_ (fun _ => ?_))|exact ih1 _ _ _ _|exact ih2 _ _ _ _ _ _|exact LeO.none _|refine LeO.ite ?_ ?_|refine LeO.bind ?_ (fun _ => ?_)
theorem spec_PlainOrd.mono : ∀ a0 a1 k,LeO (spec_PlainOrd.f k a0 a1) (spec_PlainOrd.f (k + 1) a0 a1) := by
 intro a0 a1 k
 obtain ⟨ih0,ih1,ih2⟩ := spec_PlainOrd.mono_l k
 unfold spec_PlainOrd.f
 repeat' first|(with_reducible first|exact ih0 _ _ _|exact ih1 _ _ _ _|exact ih2 _ _ _ _ _ _|exact LeO.refl _|exact LeO.none _|refine LeO.ite ?_ ?_|refine LeO.bind ?_ (fun _ => ?_))|exact ih0 _ _ _|exact ih1 _ _ _ _|exact ih2 _ _ _ _ _ _|exact LeO.none _|refine LeO.ite ?_ ?_|refine LeO.bind ?_ (fun _ => ?_)
set_option maxHeartbeats 8000000 in
set_option maxRecDepth 100000 in
theorem spec_PlainOrd.calls (k : Nat) (a0 : Int) (a1 : Int) (r : List Int) (w : World) (h : spec_PlainOrd.f k a0 a1 = some r) :
  Calls Try.prog 22 #[.int .i64 a0,.int .i64 a1] w fun e w' => ∃ v0_ : Value,e = .returned (v0_) ∧ Kd.R (Kd.int .i64) 3 w' w.heap.size (fun _ => True) v0_ r ∧ Below w.heap.size w w' := by
 have HB := Aside0.mk (Below.refl w.heap.size w)
 have H : ((spec_l1In.f a0 0 1000000000).bind fun t384 => (if t384 = true then ((spec_l1In.f a1 2 90).bind fun t385 => (spec_PlainOrd.j0 k a0 a1 (!t385))) else (spec_PlainOrd.j0 k a0 a1 true))) = some r := h
 clear h
 have HC3 := Aside0.mk H
 clear H
 go_enter Try.func22,Try.ntmps22
 go_upto_region 1 with (fail)
 go_cut [16] (fun v16 wc => ∃ (kq : Nat) (x16_2 : Bool),v16 = .bool x16_2 ∧ Aside0 (spec_PlainOrd.j0 kq a0 a1 x16_2 = some r) ∧ Aside0 (kq ≤ k) ∧ Aside0 (Below w.heap.size w wc))
 case first =>
  have H := HC3.out
  clear HC3
  replace H := Option.bind_eq_some_iff.mp H
  obtain ⟨t384,A40,H⟩ := H
  replace H : (if t384 = true then ((spec_l1In.f a1 2 90).bind fun t385 => (spec_PlainOrd.j0 k a0 a1 (!t385))) else (spec_PlainOrd.j0 k a0 a1 true)) = some r := H
  have A4 := Aside0.mk A40
  clear A40
  by_cases c5 : t384 = true
  ·subst c5
   have H1 : ((spec_l1In.f a1 2 90).bind fun t385 => (spec_PlainOrd.j0 k a0 a1 (!t385))) = some r := by rw [if_pos rfl] at H;exact H
   clear H
   have H := H1
   clear H1
   replace H := Option.bind_eq_some_iff.mp H
   obtain ⟨t385,A60,H⟩ := H
   replace H : (spec_PlainOrd.j0 k a0 a1 (!t385)) = some r := H
   have A6 := Aside0.mk A60
   clear A60
   have H' := Aside0.mk H
   clear H
   go_wp2_with (first|((with_reducible refine gate_callee (f := 51) rfl ?_);refine goesL_ (some 10) rfl rfl Try.func51 (by kernel_rfl) rfl #[.int .i64 a0,.int .i64 0,.int .i64 1000000000] rfl az ?_;(with_reducible refine (spec_l1In.calls a0 0 1000000000 true _ A4.out).mono ?_);rintro e w' ⟨rfl,⟨nd,rfl⟩⟩;refine ⟨_,rfl,?_⟩)|(go_at_call 51;(with_reducible refine (spec_l1In.calls a1 2 90 t385 _ A6.out).mono ?_);rintro e w' ⟨rfl,⟨nd,rfl⟩⟩))
   go_meet
   case rel => exact ⟨_,(!t385),(by first|rfl|(simp;done)|(simp [*];done)),H',⟨by first|omega|exact Nat.le_refl _⟩,⟨bz⟩⟩
  ·replace c5 := Bool.eq_false_iff.mpr c5
   subst c5
   have H1 : (spec_PlainOrd.j0 k a0 a1 true) = some r := by rw [if_neg (show ¬ (false = true) by decide)] at H;exact H
   clear H
   have H := H1
   clear H1
   have H' := Aside0.mk H
   clear H
   go_wp2_with (first|((with_reducible refine gate_callee (f := 51) rfl ?_);refine goesL_ (some 10) rfl rfl Try.func51 (by kernel_rfl) rfl #[.int .i64 a0,.int .i64 0,.int .i64 1000000000] rfl az ?_;(with_reducible refine (spec_l1In.calls a0 0 1000000000 false _ A4.out).mono ?_);rintro e w' ⟨rfl,⟨nd,rfl⟩⟩;refine ⟨_,rfl,?_⟩))
   go_meet
   case rel => exact ⟨_,(true),(by first|rfl|(simp;done)|(simp [*];done)),H',⟨by first|omega|exact Nat.le_refl _⟩,⟨bz⟩⟩
 case rest =>
  clear HC3
  try clear c2
  try clear p2
  try clear c5
  obtain ⟨kq,x16_2,rfl,HA,HJ2,HB⟩ := hcut
  cases kq with
  | zero => exact absurd HA.out (by simp [spec_PlainOrd.j0])
  | succ kj2 =>
   have H := HA.out
   clear HA
   simp only [spec_PlainOrd.j0] at H
   by_cases c7 : x16_2 = true
   ·subst c7
    have H1 : (some (([] : List Int))) = some r := by rw [if_pos rfl] at H;exact H
    clear H
    have H := H1
    clear H1
    obtain ⟨y386,hy386⟩ : ∃ y_ : List Int,y_ = (([] : List Int)) := ⟨_,rfl⟩
    replace H : (some y386) = some r := by first|(rw [hy386];with_reducible exact H)|(have H2_ := (Option.bind_some _ _).symm.trans H;rw [hy386];with_reducible exact H2_)|(have H2_ := (Option.bind_some _ _).symm.trans H;with_reducible exact H2_)|with_reducible exact H|(rw [hy386];exact H)|exact H
    have Ny386 := Aside0.mk hy386
    clear hy386
    obtain rfl := Option.some.inj H
    go_wp2_with (first|((with_reducible refine gate_dst (N := 17) rfl ?_);refine Kd.R_lit (Kd.int .i64) _ 3 ?hg (N := 17) ?hd (xs := ([] : List Int)) (inner := []) (ok := fun _ => True) (okp := fun _ => True) ?hr ?hp (fun _ hk => hk) trivial (Below.refl _ _) (Nat.le_refl _) (by simp) ?_;(case hd => rfl);(case hg => rfl);(case hr => first|(go_simp;done)|(go_simp;rfl));(case hp => exact (Reps.none _ _));intro v387 w8 ho9 hb hg_ hnew_;clear hg_ hnew_;(first|rw [← Ny386.out] at ho9|(simp only [Int.reduceToNat] at ho9;rw [← Ny386.out] at ho9));have n0_ := Aside0.mk (Kd.R_lower ho9 (below_size bz));have n1_ := Aside0.mk (below_step bz hb);clear HB;have HO388 := n0_;have HB := n1_;clear n0_ n1_;clear hb ho9))
    go_ret
    exact ⟨_,by first|rfl|(simp [errW_none,errW_some] <;> rfl)|(simp [*,errW_none,errW_some] <;> rfl),by (with_reducible repeat (first|apply Kd.R_alloc|apply Kd.R_drewN|apply Kd.R_drew));exact HO388.out,bz⟩
   ·replace c7 := Bool.eq_false_iff.mpr c7
    subst c7
    have H1 : (spec_PlainOrd.l0 kj2 a0 a1 (([] : List Int)) (([] : List (List Int)))) = some r := by rw [if_neg (show ¬ (false = true) by decide)] at H;exact H
    clear H
    have H := H1
    clear H1
    obtain ⟨y389,hy389⟩ : ∃ y_ : List Int,y_ = (([] : List Int)) := ⟨_,rfl⟩
    replace H : (spec_PlainOrd.l0 kj2 a0 a1 y389 (([] : List (List Int)))) = some r := by first|(rw [hy389];with_reducible exact H)|(have H2_ := (Option.bind_some _ _).symm.trans H;rw [hy389];with_reducible exact H2_)|(have H2_ := (Option.bind_some _ _).symm.trans H;with_reducible exact H2_)|with_reducible exact H|(rw [hy389];exact H)|exact H
    have Ny389 := Aside0.mk hy389
    clear hy389
    obtain ⟨y392,hy392⟩ : ∃ y_ : List (List Int),y_ = (([] : List (List Int))) := ⟨_,rfl⟩
    replace H : (spec_PlainOrd.l0 kj2 a0 a1 y389 y392) = some r := by first|(rw [hy392];with_reducible exact H)|(have H2_ := (Option.bind_some _ _).symm.trans H;rw [hy392];with_reducible exact H2_)|(have H2_ := (Option.bind_some _ _).symm.trans H;with_reducible exact H2_)|with_reducible exact H|(rw [hy392];exact H)|exact H
    have Ny392 := Aside0.mk hy392
    clear hy392
    have H' := Aside0.mk H
    clear H
    go_wp2_with (first|((with_reducible refine gate_dst (N := 18) rfl ?_);refine Kd.R_lit (Kd.int .i64) _ 3 ?hg (N := 18) ?hd (xs := ([] : List Int)) (inner := []) (ok := fun _ => True) (okp := fun _ => True) ?hr ?hp (fun _ hk => hk) trivial (Below.refl _ _) (Nat.le_refl _) (by simp) ?_;(case hd => rfl);(case hg => rfl);(case hr => first|(go_simp;done)|(go_simp;rfl));(case hp => exact (Reps.none _ _));intro v390 w10 ho11 hb hg_ hnew_;clear hg_ hnew_;(first|rw [← Ny389.out] at ho11|(simp only [Int.reduceToNat] at ho11;rw [← Ny389.out] at ho11));have n0_ := Aside0.mk (Kd.R_lower ho11 (below_size bz));have n1_ := Aside0.mk (below_step bz hb);clear HB;have HO391 := n0_;have HB := n1_;clear n0_ n1_;clear hb ho11)|((with_reducible refine gate_dst (N := 19) rfl ?_);refine Kd.S_lit (Kd.slice 3 (Kd.int .i64)) _ 25 ?hg (N := 19) ?hd (xs := ([] : List (List Int))) (inner := []) (ok := fun _ => True) (okp := fun _ => True) ?hr ?hp (fun _ hk => hk) trivial (Below.refl _ _) (Nat.le_refl _) (by simp) ?_;(case hd => rfl);(case hg => rfl);(case hr => first|(go_simp;done)|(go_simp;rfl));(case hp => exact (Reps.none _ _));intro v393 w12 ho13 hb hg_ hnew_;clear hg_ hnew_;(first|rw [← Ny392.out] at ho13|(simp only [Int.reduceToNat] at ho13;rw [← Ny392.out] at ho13));have n0_ := Aside0.mk (Kd.R_below (Kd.Rz HO391.out) hb);have n1_ := Aside0.mk (Kd.S_lower (Kd.S_new' ho13 (Kd.R_lt (Kd.Rz HO391.out))) (below_size bz));have n2_ := Aside0.mk (below_step bz hb);clear HO391;clear HB;have HO391 := n0_;have HO394 := n1_;have HB := n2_;clear n0_ n1_ n2_;clear hb ho13))
    go_loopg [0,5,6] kj2 (fun kq v0 v5 v6 w' => ∃ (x0_2 : Int) (x5_2 : List Int) (x6_2 : List (List Int)),v0 = .int .i64 x0_2 ∧ Aside0 (spec_PlainOrd.l0 kq x0_2 a1 x5_2 x6_2 = some r) ∧ Aside0 (kq ≤ kj2) ∧ Aside0 (Kd.R (Kd.int .i64) 3 w' w.heap.size (fun _ => True) v5 x5_2) ∧ Aside0 (Kd.S (Kd.slice 3 (Kd.int .i64)) 25 w' w.heap.size (fun k_ => some k_ ≠ (v5 : Value).ownBlock) v6 x6_2) ∧ Aside0 (Below w.heap.size w w'))
    case atStart => exact ⟨(a0),(y389),(y392),(by first|rfl|(simp;done)|(simp [*];done)),H',⟨Nat.le_refl _⟩,⟨by (with_reducible repeat (first|apply Kd.R_alloc|apply Kd.R_drewN|apply Kd.R_drew));exact HO391.out⟩,⟨by (with_reducible repeat (first|apply Kd.S_alloc|apply Kd.S_drewN|apply Kd.S_drew));exact Kd.S_mono HO394.out (fun _ hk => hk.2)⟩,⟨bz⟩⟩
    case round =>
     clear H'
     try clear c2
     try clear p2
     try clear c5
     try clear c7
     try clear p2
     obtain ⟨x0_2,x5_2,x6_2,rfl,HA,HK2,HO_5,HO_6,HB⟩ := hrel
     cases gk with
     | zero => exact absurd HA.out (by simp [spec_PlainOrd.l0])
     | succ k2 =>
      have H := HA.out
      clear HA
      simp only [spec_PlainOrd.l0] at H
      by_cases c14 : x0_2 > 0
      ·rw [if_pos c14] at H
       have c14b0 : decide (0 < x0_2) = true := decide_eq_true c14
       clear c14
       have H' := Aside0.mk H
       clear H
       go_wp2
       go_loopg [7,8] k2 (fun kq v7 v8 w' => ∃ (x7_3 : Int) (x8_3 : Int),v7 = .int .i64 x7_3 ∧ v8 = .int .i64 x8_3 ∧ Aside0 (spec_PlainOrd.l1 kq x0_2 a1 x5_2 x6_2 x7_3 x8_3 = some r) ∧ Aside0 (kq ≤ k2) ∧ Aside0 (Kd.R (Kd.int .i64) 3 w' w.heap.size (fun _ => True) u5 x5_2) ∧ Aside0 (Kd.S (Kd.slice 3 (Kd.int .i64)) 25 w' w.heap.size (fun k_ => some k_ ≠ (u5 : Value).ownBlock) u6 x6_2) ∧ Aside0 (Below w.heap.size w w'))
       case atStart => exact ⟨(1),(0),(by first|rfl|(simp;done)|(simp [*];done)),(by first|rfl|(simp;done)|(simp [*];done)),H',⟨Nat.le_refl _⟩,⟨by (with_reducible repeat (first|apply Kd.R_alloc|apply Kd.R_drewN|apply Kd.R_drew));exact HO_5.out⟩,⟨by (with_reducible repeat (first|apply Kd.S_alloc|apply Kd.S_drewN|apply Kd.S_drew));exact HO_6.out⟩,⟨bz⟩⟩
       case round =>
        clear H'
        try clear c1
        try clear c2
        try clear p2
        try clear c5
        try clear c7
        try clear c14
        try clear c14b0
        try clear p2
        obtain ⟨x7_3,x8_3,rfl,rfl,HA,HK3,HO_5,HO_6,HB⟩ := hrel
        cases gk with
        | zero => exact absurd HA.out (by simp [spec_PlainOrd.l1])
        | succ k3 =>
         have H := HA.out
         clear HA
         simp only [spec_PlainOrd.l1] at H
         by_cases c15 : a1 = 0
         ·rw [if_pos c15] at H
          exact absurd H (by simp)
         ·rw [if_neg c15] at H
          have c15b0 : (a1 == 0) = false := beq_eq_false_iff_ne.mpr c15
          have c15b1 : (a1 != 0) = true := bne_iff_ne.mpr c15
          by_cases c16 : x7_3 ≤ (wrap64 (Int.tdiv x0_2 a1))
          ·rw [if_pos c16] at H
           have c16b0 : decide (x7_3 ≤ (wrap64 (Int.tdiv x0_2 a1))) = true := decide_eq_true c16
           clear c16
           have H' := Aside0.mk H
           clear H
           go_wp2
           go_roundg k3
           case measure => have := HJ2.out;have := HK2.out;have := HK3.out;omega
           case rel => exact ⟨(wrap64 (x7_3 * a1)),(wrap64 (x8_3 + 1)),(by first|rfl|(simp;done)|(simp [*];done)),(by first|rfl|(simp;done)|(simp [*];done)),H',⟨by have := HJ2.out;have := HK2.out;have := HK3.out;omega⟩,⟨by (with_reducible repeat (first|apply Kd.R_alloc|apply Kd.R_drewN|apply Kd.R_drew));exact HO_5.out⟩,⟨by (with_reducible repeat (first|apply Kd.S_alloc|apply Kd.S_drewN|apply Kd.S_drew));exact HO_6.out⟩,⟨bz⟩⟩
          ·rw [if_neg c16] at H
           have c16b0 : decide (x7_3 ≤ (wrap64 (Int.tdiv x0_2 a1))) = false := decide_eq_false c16
           clear c16
           by_cases c17 : x7_3 = 0
           ·rw [if_pos c17] at H
            exact absurd H (by simp)
           ·rw [if_neg c17] at H
            have c17b0 : (x7_3 == 0) = false := beq_eq_false_iff_ne.mpr c17
            have c17b1 : (x7_3 != 0) = true := bne_iff_ne.mpr c17
            by_cases c18 : x5_2.length < 17592186044416
            ·rw [if_pos c18] at H
             have LMc18 := Aside0.mk c18
             clear c18
             obtain ⟨y395,hy395⟩ : ∃ y_ : List Int,y_ = (x5_2 ++ [wrap64 (Int.tdiv x0_2 x7_3)]) := ⟨_,rfl⟩
             replace H : ((spec_OrdOf.f x8_3).bind fun t398 => (if x6_2.length < 5864062014805 then (spec_PlainOrd.l0 k3 (Int.tmod x0_2 x7_3) a1 y395 (x6_2 ++ [t398])) else (none))) = some r := by first|(rw [hy395];with_reducible exact H)|(have H2_ := (Option.bind_some _ _).symm.trans H;rw [hy395];with_reducible exact H2_)|(have H2_ := (Option.bind_some _ _).symm.trans H;with_reducible exact H2_)|with_reducible exact H|(rw [hy395];exact H)|exact H
             have Ny395 := Aside0.mk hy395
             clear hy395
             replace H := Option.bind_eq_some_iff.mp H
             obtain ⟨t398,A190,H⟩ := H
             replace H : (if x6_2.length < 5864062014805 then (spec_PlainOrd.l0 k3 (Int.tmod x0_2 x7_3) a1 y395 (x6_2 ++ [t398])) else (none)) = some r := H
             have A19 := Aside0.mk A190
             clear A190
             by_cases c20 : x6_2.length < 5864062014805
             ·rw [if_pos c20] at H
              have LMc20 := Aside0.mk c20
              clear c20
              obtain ⟨y401,hy401⟩ : ∃ y_ : List (List Int),y_ = (x6_2 ++ [t398]) := ⟨_,rfl⟩
              replace H : (spec_PlainOrd.l0 k3 (Int.tmod x0_2 x7_3) a1 y395 y401) = some r := by first|(rw [hy401];with_reducible exact H)|(have H2_ := (Option.bind_some _ _).symm.trans H;rw [hy401];with_reducible exact H2_)|(have H2_ := (Option.bind_some _ _).symm.trans H;with_reducible exact H2_)|with_reducible exact H|(rw [hy401];exact H)|exact H
              have Ny401 := Aside0.mk hy401
              clear hy401
              have H' := Aside0.mk H
              clear H
              go_wp2_with (first|((with_reducible refine gate_builtin (b := .append) (xs := #[.tmp 32,.tmp 36]) rfl ?_);at_builtin;refine Kd.R_append (Kd.int .i64) (w0 := w) w.heap.size rfl (.tmp 32) (.tmp 36) 25 3 (.int .i64 0) 8 rfl Try.underlying25 info3 rfl (by decide) (by omega) u5 x5_2 (wrap64 (Int.tdiv x0_2 x7_3)) [.int .i64 (wrap64 (Int.tdiv x0_2 x7_3))] (fun _ => True) (fun _ => False) rfl rfl ?aP (fun _ hk => hk.elim) ?aF ?aO ?aB ?aS ?aL ?_;(case aP => exact rfl);(case aB => exact bz);(case aF => exact (fun _ _ => trivial));(case aO => exact (Kd.Rz HO_5.out));(case aS => exact (below_size bz));(case aL => have := LMc18.out;omega);intro v396 w21 ho hb hg hat;rw [← Ny395.out] at ho;have n0_ := Aside0.mk (Kd.S_after (ok := (fun _ => True)) (by (with_reducible repeat (first|apply Kd.S_alloc|apply Kd.S_drewN|apply Kd.S_drew));exact Kd.S_mono HO_6.out (fun _ hk => ⟨trivial,hk⟩)) hg hat);have n1_ := Aside0.mk (hb);have n2_ := Aside0.mk (ho);clear HO_6;clear HB;clear HO_5;have HO_6 := n0_;have HB := n1_;have HO397 := n2_;clear n0_ n1_ n2_;clear ho hb hg hat)|((with_reducible refine gate_callee (f := 60) rfl ?_);refine goesL_ (some 40) rfl rfl Try.func60 (by kernel_rfl) rfl #[.int .i64 x8_3] rfl az ?_;(with_reducible refine (spec_OrdOf.calls x8_3 t398 _ A19.out).mono ?_);rintro e w22 ⟨v399,rfl,ho0,hb⟩;refine ⟨_,rfl,?_⟩;have n0_ := Aside0.mk (Kd.S_elder' (by (with_reducible repeat (first|apply Kd.S_alloc|apply Kd.S_drewN|apply Kd.S_drew));exact HO_6.out) (Kd.R_base ho0) hb);have n1_ := Aside0.mk (Kd.R_elder' (Kd.Rz HO397.out) (Kd.R_base ho0) hb);have n2_ := Aside0.mk (Kd.R_lower (Kd.R_new' ho0 (Kd.R_lt (Kd.Rz HO397.out))) (below_size bz));have n3_ := Aside0.mk (below_step bz hb);clear HO_6;clear HO397;clear HB;have HO_6 := n0_;have HO397 := n1_;have HO400 := n2_;have HB := n3_;clear n0_ n1_ n2_ n3_;(try clear hb);(try clear hb2);(try clear hk);(try clear hi);(try clear ho0);obtain ⟨Ao24,co24,eo24⟩ := Kd.R_slice HO400.out;subst eo24)|((with_reducible refine gate_builtin (b := .append) (xs := #[.tmp 38,.tmp 41]) rfl ?_);at_builtin;refine Kd.S_append (Kd.slice 3 (Kd.int .i64)) (w0 := w) w.heap.size rfl (.tmp 38) (.tmp 41) 46 25 (.slice none 0 0) 24 rfl Try.underlying46 info25 rfl (by decide) (by omega) u6 x6_2 t398 [.slice Ao24 t398.length co24] (fun k_ => some k_ ≠ (v396 : Value).ownBlock) (fun k_ => some k_ = (.slice Ao24 t398.length co24 : Value).ownBlock) rfl rfl ?aP (fun k_ hk_ => ((Kd.R_mono (ok' := fun k_ => ((fun k_ => some k_ ≠ (v396 : Value).ownBlock)) k_ ∧ some k_ ≠ (u6 : Value).ownBlock) (Kd.R_apart' (HO400.out) (Kd.S_typed HO_6.out) (by decide)) (fun k_ hk => ⟨hk.1.2,hk.2⟩))).1 k_ hk_.symm) ?aF ?aO ?aB ?aS ?aL ?_;(case aP => exact Kd.M_row (Kd.R_mono (Kd.R_tight rfl (Kd.R_mono (ok' := fun k_ => ((fun k_ => some k_ ≠ (v396 : Value).ownBlock)) k_ ∧ some k_ ≠ (u6 : Value).ownBlock) (Kd.R_apart' (HO400.out) (Kd.S_typed HO_6.out) (by decide)) (fun k_ hk => ⟨hk.1.2,hk.2⟩))) (fun _ h_ => h_)));(case aB => exact bz);(case aF => exact (fun k_ hk => Kd.fresh' (Kd.R_lt (Kd.Rz HO397.out)) k_ hk));(case aO => exact (by (with_reducible repeat (first|apply Kd.S_alloc|apply Kd.S_drewN|apply Kd.S_drew));exact Kd.S_mono HO_6.out (fun k_ hk => ⟨hk.1.2,fun e_ => hk.2 e_⟩)));(case aS => exact (below_size bz));(case aL => have := LMc20.out;omega);intro v402 w23 ho hb hg hat;rw [← Ny401.out] at ho;have n0_ := Aside0.mk (Kd.R_over' (Kd.Rz HO397.out) (Kd.S_typed (by (with_reducible repeat (first|apply Kd.S_alloc|apply Kd.S_drewN|apply Kd.S_drew));exact HO_6.out)) (by decide) hg);have n1_ := Aside0.mk (hb);have n2_ := Aside0.mk (ho);clear HO397;clear HB;clear HO_6;clear HO400;have HO397 := n0_;have HB := n1_;have HO403 := n2_;clear n0_ n1_ n2_;clear ho hb hg hat))
              go_roundg k3
              case measure => have := HJ2.out;have := HK2.out;have := HK3.out;omega
              case rel => exact ⟨(Int.tmod x0_2 x7_3),(y395),(y401),(by first|rfl|(simp;done)|(simp [*];done)),H',⟨by have := HJ2.out;have := HK2.out;have := HK3.out;omega⟩,⟨by (with_reducible repeat (first|apply Kd.R_alloc|apply Kd.R_drewN|apply Kd.R_drew));exact Kd.R_mono HO397.out (fun _ hk => trivial)⟩,⟨by (with_reducible repeat (first|apply Kd.S_alloc|apply Kd.S_drewN|apply Kd.S_drew));exact HO403.out⟩,⟨bz⟩⟩
             ·rw [if_neg c20] at H
              exact absurd H (by simp)
            ·rw [if_neg c18] at H
             exact absurd H (by simp)
      ·rw [if_neg c14] at H
       have c14b0 : decide (0 < x0_2) = false := decide_eq_false c14
       clear c14
       replace H := Option.bind_eq_some_iff.mp H
       obtain ⟨t404,A250,H⟩ := H
       replace H : (if (t404.length : Int) > 60 then (some (([] : List Int))) else ((spec_l1Make.f k2 x5_2 x6_2).bind fun t410 => (some t410))) = some r := H
       have A25 := Aside0.mk A250
       clear A250
       by_cases c26 : (t404.length : Int) > 60
       ·rw [if_pos c26] at H
        have c26b0 : decide (60 < (t404.length : Int)) = true := decide_eq_true c26
        have c26b1 : decide (60 < t404.length) = true := decide_eq_true (by omega)
        clear c26
        obtain ⟨y407,hy407⟩ : ∃ y_ : List Int,y_ = (([] : List Int)) := ⟨_,rfl⟩
        replace H : (some y407) = some r := by first|(rw [hy407];with_reducible exact H)|(have H2_ := (Option.bind_some _ _).symm.trans H;rw [hy407];with_reducible exact H2_)|(have H2_ := (Option.bind_some _ _).symm.trans H;with_reducible exact H2_)|with_reducible exact H|(rw [hy407];exact H)|exact H
        have Ny407 := Aside0.mk hy407
        clear hy407
        obtain rfl := Option.some.inj H
        obtain ⟨Ao27,co27,eo27⟩ := Kd.R_slice HO_5.out
        subst eo27
        obtain ⟨Ao28,co28,eo28⟩ := Kd.S_slice HO_6.out
        subst eo28
        go_wp2_with (first|((with_reducible refine gate_callee (f := 61) rfl ?_);refine goesL_ (some 48) rfl rfl Try.func61 (by kernel_rfl) rfl #[.slice Ao27 x5_2.length co27,.slice Ao28 x6_2.length co28] rfl az ?_;(with_reducible refine (spec_l1Make.calls k2 _ _ x5_2 _ _ x6_2 t404 _ ?side1 ?side2 ?side3 ?side4 A25.out).mono ?_);(case side1 => exact Kd.Cz (Kd.R_reads' HO_5.out).2.2);(case side2 => exact (Kd.R_reads' HO_5.out).2.1);(case side3 => repeat (first|exact (Kd.S_reads' HO_6.out).2.2|(with_reducible refine Kd.C_alloc ?_ _)|(with_reducible refine Kd.C_drewN ?_ _)|(with_reducible refine Kd.C_drew ?_)));(case side4 => exact (Kd.S_reads' HO_6.out).2.1);rintro e w29 ⟨v405,rfl,ho0,hb⟩;refine ⟨_,rfl,?_⟩;have n0_ := Aside0.mk (Kd.R_elder' (Kd.Rz HO_5.out) (Kd.R_base ho0) hb);have n1_ := Aside0.mk (Kd.S_elder' (by (with_reducible repeat (first|apply Kd.S_alloc|apply Kd.S_drewN|apply Kd.S_drew));exact HO_6.out) (Kd.R_base ho0) hb);have n2_ := Aside0.mk (Kd.R_lower (Kd.R_new' ho0 (Kd.R_lt (Kd.Rz HO_5.out))) (below_size bz));have n3_ := Aside0.mk (below_step bz hb);clear HO_5;clear HO_6;clear HB;have HO_5 := n0_;have HO_6 := n1_;have HO406 := n2_;have HB := n3_;clear n0_ n1_ n2_ n3_;(try clear hb);(try clear hb2);(try clear hk);(try clear hi);(try clear ho0);obtain ⟨Ao30,co30,eo30⟩ := Kd.R_slice HO406.out;subst eo30)|((with_reducible refine gate_dst (N := 51) rfl ?_);refine Kd.R_lit (Kd.int .i64) _ 3 ?hg (N := 51) ?hd (xs := ([] : List Int)) (inner := []) (ok := fun _ => True) (okp := fun _ => True) ?hr ?hp (fun _ hk => hk) trivial (Below.refl _ _) (Nat.le_refl _) (by simp) ?_;(case hd => rfl);(case hg => rfl);(case hr => first|(go_simp;done)|(go_simp;rfl));(case hp => exact (Reps.none _ _));intro v408 w31 ho32 hb hg_ hnew_;clear hg_ hnew_;(first|rw [← Ny407.out] at ho32|(simp only [Int.reduceToNat] at ho32;rw [← Ny407.out] at ho32));have n0_ := Aside0.mk (Kd.R_elder' (Kd.Rz HO_5.out) (Kd.R_base ho32) hb);have n1_ := Aside0.mk (Kd.S_elder' (by (with_reducible repeat (first|apply Kd.S_alloc|apply Kd.S_drewN|apply Kd.S_drew));exact HO_6.out) (Kd.R_base ho32) hb);have n2_ := Aside0.mk (Kd.R_elder' (Kd.Rz HO406.out) (Kd.R_base ho32) hb);have n3_ := Aside0.mk (Kd.R_lower (Kd.R_new' (Kd.R_new' ho32 (Kd.R_lt (Kd.Rz HO_5.out))) (Kd.R_lt (Kd.Rz HO406.out))) (below_size bz));have n4_ := Aside0.mk (below_step bz hb);clear HO_5;clear HO_6;clear HO406;clear HB;have HO_5 := n0_;have HO_6 := n1_;have HO406 := n2_;have HO409 := n3_;have HB := n4_;clear n0_ n1_ n2_ n3_ n4_;clear hb ho32))
        go_ret
        exact ⟨_,by first|rfl|(simp [errW_none,errW_some] <;> rfl)|(simp [*,errW_none,errW_some] <;> rfl),by (with_reducible repeat (first|apply Kd.R_alloc|apply Kd.R_drewN|apply Kd.R_drew));exact Kd.R_mono HO409.out (fun _ hk => trivial),bz⟩
       ·rw [if_neg c26] at H
        have c26b0 : decide (60 < (t404.length : Int)) = false := decide_eq_false c26
        have c26b1 : decide (60 < t404.length) = false := decide_eq_false (by omega)
        clear c26
        replace H := Option.bind_eq_some_iff.mp H
        obtain ⟨t410,A330,H⟩ := H
        replace H : (some t410) = some r := H
        have A33 := Aside0.mk A330
        clear A330
        obtain rfl := Option.some.inj H
        obtain ⟨Ao34,co34,eo34⟩ := Kd.R_slice HO_5.out
        subst eo34
        obtain ⟨Ao35,co35,eo35⟩ := Kd.S_slice HO_6.out
        subst eo35
        go_wp2_with (first|((with_reducible refine gate_callee (f := 61) rfl ?_);refine goesL_ (some 48) rfl rfl Try.func61 (by kernel_rfl) rfl #[.slice Ao34 x5_2.length co34,.slice Ao35 x6_2.length co35] rfl az ?_;(with_reducible refine (spec_l1Make.calls k2 _ _ x5_2 _ _ x6_2 t404 _ ?side1 ?side2 ?side3 ?side4 A25.out).mono ?_);(case side1 => exact Kd.Cz (Kd.R_reads' HO_5.out).2.2);(case side2 => exact (Kd.R_reads' HO_5.out).2.1);(case side3 => repeat (first|exact (Kd.S_reads' HO_6.out).2.2|(with_reducible refine Kd.C_alloc ?_ _)|(with_reducible refine Kd.C_drewN ?_ _)|(with_reducible refine Kd.C_drew ?_)));(case side4 => exact (Kd.S_reads' HO_6.out).2.1);rintro e w36 ⟨v405,rfl,ho0,hb⟩;refine ⟨_,rfl,?_⟩;have n0_ := Aside0.mk (Kd.R_elder' (Kd.Rz HO_5.out) (Kd.R_base ho0) hb);have n1_ := Aside0.mk (Kd.S_elder' (by (with_reducible repeat (first|apply Kd.S_alloc|apply Kd.S_drewN|apply Kd.S_drew));exact HO_6.out) (Kd.R_base ho0) hb);have n2_ := Aside0.mk (Kd.R_lower (Kd.R_new' ho0 (Kd.R_lt (Kd.Rz HO_5.out))) (below_size bz));have n3_ := Aside0.mk (below_step bz hb);clear HO_5;clear HO_6;clear HB;have HO_5 := n0_;have HO_6 := n1_;have HO406 := n2_;have HB := n3_;clear n0_ n1_ n2_ n3_;(try clear hb);(try clear hb2);(try clear hk);(try clear hi);(try clear ho0);obtain ⟨Ao37,co37,eo37⟩ := Kd.R_slice HO406.out;subst eo37)|((with_reducible refine gate_callee (f := 61) rfl ?_);refine goesL_ (some 54) rfl rfl Try.func61 (by kernel_rfl) rfl #[.slice Ao34 x5_2.length co34,.slice Ao35 x6_2.length co35] rfl az ?_;(with_reducible refine (spec_l1Make.calls k2 _ _ x5_2 _ _ x6_2 t410 _ ?side1 ?side2 ?side3 ?side4 A33.out).mono ?_);(case side1 => exact Kd.Cz (Kd.R_reads' HO_5.out).2.2);(case side2 => exact (Kd.R_reads' HO_5.out).2.1);(case side3 => repeat (first|exact (Kd.S_reads' HO_6.out).2.2|(with_reducible refine Kd.C_alloc ?_ _)|(with_reducible refine Kd.C_drewN ?_ _)|(with_reducible refine Kd.C_drew ?_)));(case side4 => exact (Kd.S_reads' HO_6.out).2.1);rintro e w38 ⟨v411,rfl,ho0,hb⟩;refine ⟨_,rfl,?_⟩;have n0_ := Aside0.mk (Kd.R_elder' (Kd.Rz HO_5.out) (Kd.R_base ho0) hb);have n1_ := Aside0.mk (Kd.S_elder' (by (with_reducible repeat (first|apply Kd.S_alloc|apply Kd.S_drewN|apply Kd.S_drew));exact HO_6.out) (Kd.R_base ho0) hb);have n2_ := Aside0.mk (Kd.R_elder' (Kd.Rz HO406.out) (Kd.R_base ho0) hb);have n3_ := Aside0.mk (Kd.R_lower (Kd.R_new' (Kd.R_new' ho0 (Kd.R_lt (Kd.Rz HO_5.out))) (Kd.R_lt (Kd.Rz HO406.out))) (below_size bz));have n4_ := Aside0.mk (below_step bz hb);clear HO_5;clear HO_6;clear HO406;clear HB;have HO_5 := n0_;have HO_6 := n1_;have HO406 := n2_;have HO412 := n3_;have HB := n4_;clear n0_ n1_ n2_ n3_ n4_;(try clear hb);(try clear hb2);(try clear hk);(try clear hi);(try clear ho0)))
        go_ret
        exact ⟨_,by first|rfl|(simp [errW_none,errW_some] <;> rfl)|(simp [*,errW_none,errW_some] <;> rfl),by (with_reducible repeat (first|apply Kd.R_alloc|apply Kd.R_drewN|apply Kd.R_drew));exact Kd.R_mono HO412.out (fun _ hk => trivial),bz⟩

end Go.Proofs.Ytpgkpahhohfmhaa.P
