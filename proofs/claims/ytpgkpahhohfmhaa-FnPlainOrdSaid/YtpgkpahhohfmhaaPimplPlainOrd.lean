/- The walk of one Go function that the law reaches: it comes to what the Lean function of its name tells. -/
import Derived.Test.YtpgkpahhohfmhaaP0
import Derived.Test.YtpgkpahhohfmhaaPimpldigits
import Derived.Test.YtpgkpahhohfmhaaPimplnumber
import Derived.Test.YtpgkpahhohfmhaaPimpltold
namespace Go.Proofs.Ytpgkpahhohfmhaa.P
open Go.RowKit Go.Proofs.YtpgkpahhohfmhaaW.PrintWords Go.Proofs.YtpgkpahhohfmhaaW.PrintLast Go.Proofs.YtpgkpahhohfmhaaW.PrintMore
attribute [local go_sem] max2_int min2_int max_two min_two max_three min_three max_four min_four   
set_option linter.unusedVariables false
set_option linter.unusedSimpArgs false

/-! ### impl_PlainOrd: function 21 -/
mutual
def impl_PlainOrd.j0 : Nat → Int → Int → Bool → Option (List Int)
 | 0,_,_,_ => none
 | k + 1,x0,x1,x23 => if x23 = true then (some ([] : List Int)) else ((impl_digits.f k x0 x1).bind fun t359 => (impl_PlainOrd.l0 k (([] : List (S69))) t359 (wrap64 ((t359.length : Int) - 1))))
def impl_PlainOrd.l0 : Nat → List (S69) → List Int → Int → Option (List Int)
 | 0,_,_,_ => none
 | k + 1,x5,x6,x7 => if x7 ≥ 0 then (if 0 ≤ x7 then (if x7 < (x6.length : Int) then (if (rd x6 x7) > 0 then ((impl_number.f x7).bind fun t364 => (if x5.length < 4398046511104 then (impl_PlainOrd.l0 k (x5 ++ [(⟨rd x6 x7,t364⟩ : S69)]) x6 (wrap64 (x7 - 1))) else (none))) else (impl_PlainOrd.l0 k x5 x6 (wrap64 (x7 - 1)))) else (none)) else (none)) else ((impl_told.f k x5).bind fun bt370 => (some bt370.1))
end
def impl_PlainOrd.f (k : Nat) (a0 : Int) (a1 : Int) : Option (List Int) := if a0 < 0 then (impl_PlainOrd.j0 k a0 a1 true) else (if a0 > 1000000000 then (impl_PlainOrd.j0 k a0 a1 true) else (if a1 < 2 then (impl_PlainOrd.j0 k a0 a1 true) else (impl_PlainOrd.j0 k a0 a1 (decide (a1 > 90)))))
theorem impl_PlainOrd.mono_l : ∀ k,(∀ y0 y1 y2,LeO (impl_PlainOrd.j0 k y0 y1 y2) (impl_PlainOrd.j0 (k + 1) y0 y1 y2)) ∧ (∀ y0 y1 y2,LeO (impl_PlainOrd.l0 k y0 y1 y2) (impl_PlainOrd.l0 (k + 1) y0 y1 y2))
 | 0 => ⟨fun _ _ _ r h => by simp [impl_PlainOrd.j0] at h,fun _ _ _ r h => by simp [impl_PlainOrd.l0] at h⟩
 | k + 1 => by
  obtain ⟨ih0,ih1⟩ := impl_PlainOrd.mono_l k
  refine ⟨?_,?_⟩
  ·intro y0 y1 y2
   unfold impl_PlainOrd.j0
   repeat' first|(with_reducible first|exact ih0 _ _ _|exact ih1 _ _ _|exact impl_digits.mono _ _ _|exact LeO.refl _|exact LeO.none _|refine LeO.ite ?_ ?_|refine LeO.bind ?_ (fun _ => ?_))|exact ih0 _ _ _|exact ih1 _ _ _|exact impl_digits.mono _ _ _|exact LeO.none _|refine LeO.ite ?_ ?_|refine LeO.bind ?_ (fun _ => ?_)
  ·intro y0 y1 y2
   unfold impl_PlainOrd.l0
   repeat' first|(with_reducible first|exact ih1 _ _ _|exact impl_told.mono _ _|exact LeO.refl _|exact LeO.none _|refine LeO.ite ?_ ?_|refine LeO.bind ?_ (fun _ => ?_))|exact ih1 _ _ _|exact impl_told.mono _ _|exact LeO.none _|refine LeO.ite ?_ ?_|refine LeO.bind ?_ (fun _ => ?_)
theorem impl_PlainOrd.mono : ∀ a0 a1 k,LeO (impl_PlainOrd.f k a0 a1) (impl_PlainOrd.f (k + 1) a0 a1) := by
 intro a0 a1 k
 obtain ⟨ih0,ih1⟩ := impl_PlainOrd.mono_l k
 unfold impl_PlainOrd.f
 repeat' first|(with_reducible first|exact ih0 _ _ _|exact ih1 _ _ _|exact LeO.refl _|exact LeO.none _|refine LeO.ite ?_ ?_|refine LeO.bind ?_ (fun _ => ?_))|exact ih0 _ _ _|exact ih1 _ _ _|exact LeO.none _|refine LeO.ite ?_ ?_|refine LeO.bind ?_ (fun _ => ?_)
def impl_PlainOrd.T9 : Bool × List (List Nat × List Nat) := (true,[([],[]),([],[]),([],[]),([1,2],[1,2]),([3],[3]),([],[]),([5],[5]),([4,6],[4,6]),([7],[7]),([0,8,6],[0,8]),([9,9,0,1,2,3,4,5,6,7,8,9],[0,9])])
def impl_PlainOrd.B9 : List Nat := [0,0,0,6,14,0,32,126,254,511,1023]
theorem impl_PlainOrd.tab9 : rtab .any (opsOf Try.f21 9) = impl_PlainOrd.T9 := by kernel_rfl
theorem impl_PlainOrd.bits9 : waitsOk impl_PlainOrd.T9.2 impl_PlainOrd.B9 = true := by kernel_rfl
set_option maxHeartbeats 8000000 in
set_option maxRecDepth 100000 in
theorem impl_PlainOrd.calls (k : Nat) (a0 : Int) (a1 : Int) (r : List Int) (w : World) (h : impl_PlainOrd.f k a0 a1 = some r) :
  Calls Try.prog 21 #[.int .i64 a0,.int .i64 a1] w fun e w' => ∃ v0_ : Value,e = .returned (v0_) ∧ Kd.R (Kd.int .i64) 3 w' w.heap.size (fun _ => True) v0_ r ∧ Below w.heap.size w w' := by
 have hu69 := Try.underlying69
 have HB := Aside0.mk (Below.refl w.heap.size w)
 have H : (if a0 < 0 then (impl_PlainOrd.j0 k a0 a1 true) else (if a0 > 1000000000 then (impl_PlainOrd.j0 k a0 a1 true) else (if a1 < 2 then (impl_PlainOrd.j0 k a0 a1 true) else (impl_PlainOrd.j0 k a0 a1 (decide (a1 > 90)))))) = some r := h
 clear h
 have HC3 := Aside0.mk H
 clear H
 go_enter Try.func21,Try.ntmps21
 go_upto_region 1 with (fail)
 go_cut [23] (fun v23 wc => ∃ (kq : Nat) (x23_2 : Bool),v23 = .bool x23_2 ∧ Aside0 (impl_PlainOrd.j0 kq a0 a1 x23_2 = some r) ∧ Aside0 (kq ≤ k) ∧ Aside0 (Below w.heap.size w wc))
 case first =>
  have H := HC3.out
  clear HC3
  by_cases c4 : a0 < 0
  ·rw [if_pos c4] at H
   have c4b0 : decide (a0 < 0) = true := decide_eq_true c4
   clear c4
   (first|rw [c4b0]|(simp only [i64_w,i32_w];rw [c4b0])|skip)
   have H' := Aside0.mk H
   clear H
   go_wp2
   go_meet
   case rel => exact ⟨_,(true),(by first|rfl|(simp;done)|(simp [*];done)),H',⟨by first|omega|exact Nat.le_refl _⟩,⟨bz⟩⟩
  ·rw [if_neg c4] at H
   have c4b0 : decide (a0 < 0) = false := decide_eq_false c4
   clear c4
   (first|rw [c4b0]|(simp only [i64_w,i32_w];rw [c4b0])|skip)
   by_cases c5 : a0 > 1000000000
   ·rw [if_pos c5] at H
    have c5b0 : decide (1000000000 < a0) = true := decide_eq_true c5
    clear c5
    have H' := Aside0.mk H
    clear H
    go_wp2
    go_meet
    case rel => exact ⟨_,(true),(by first|rfl|(simp;done)|(simp [*];done)),H',⟨by first|omega|exact Nat.le_refl _⟩,⟨bz⟩⟩
   ·rw [if_neg c5] at H
    have c5b0 : decide (1000000000 < a0) = false := decide_eq_false c5
    clear c5
    by_cases c6 : a1 < 2
    ·rw [if_pos c6] at H
     have c6b0 : decide (a1 < 2) = true := decide_eq_true c6
     clear c6
     have H' := Aside0.mk H
     clear H
     go_wp2
     go_meet
     case rel => exact ⟨_,(true),(by first|rfl|(simp;done)|(simp [*];done)),H',⟨by first|omega|exact Nat.le_refl _⟩,⟨bz⟩⟩
    ·rw [if_neg c6] at H
     have c6b0 : decide (a1 < 2) = false := decide_eq_false c6
     clear c6
     have H' := Aside0.mk H
     clear H
     go_wp2
     go_meet
     case rel => exact ⟨_,(decide (a1 > 90)),(by first|rfl|(simp;done)|(simp [*];done)),H',⟨by first|omega|exact Nat.le_refl _⟩,⟨bz⟩⟩
 case rest =>
  clear HC3
  try clear c2
  try clear p2
  try clear c4
  try clear c4b0
  try clear c5
  try clear c5b0
  try clear c6
  try clear c6b0
  obtain ⟨kq,x23_2,rfl,HA,HJ2,HB⟩ := hcut
  cases kq with
  | zero => exact absurd HA.out (by simp [impl_PlainOrd.j0])
  | succ kj2 =>
   have H := HA.out
   clear HA
   simp only [impl_PlainOrd.j0] at H
   by_cases c7 : x23_2 = true
   ·subst c7
    have H1 : (some ([] : List Int)) = some r := by rw [if_pos rfl] at H;exact H
    clear H
    have H := H1
    clear H1
    obtain rfl := Option.some.inj H
    go_wp2
    go_ret
    exact ⟨_,by first|rfl|(simp [errW_none,errW_some] <;> rfl)|(simp [*,errW_none,errW_some] <;> rfl),by first|exact Kd.R_nil _ _ _ _ _|exact Kd.N_nil _ _ _ _ _|exact Kd.V_nil _ _ _ _ _|exact Kd.Q_nil _ _ _ _ _|exact Kd.S_nil _ _ _ _ _,bz⟩
   ·replace c7 := Bool.eq_false_iff.mpr c7
    subst c7
    have H1 : ((impl_digits.f kj2 a0 a1).bind fun t359 => (impl_PlainOrd.l0 kj2 (([] : List (S69))) t359 (wrap64 ((t359.length : Int) - 1)))) = some r := by rw [if_neg (show ¬ (false = true) by decide)] at H;exact H
    clear H
    have H := H1
    clear H1
    obtain ⟨y356,hy356⟩ : ∃ y_ : List (S69),y_ = (([] : List (S69))) := ⟨_,rfl⟩
    replace H : ((impl_digits.f kj2 a0 a1).bind fun t359 => (impl_PlainOrd.l0 kj2 y356 t359 (wrap64 ((t359.length : Int) - 1)))) = some r := by first|(rw [hy356];with_reducible exact H)|(have H2_ := (Option.bind_some _ _).symm.trans H;rw [hy356];with_reducible exact H2_)|(have H2_ := (Option.bind_some _ _).symm.trans H;with_reducible exact H2_)|with_reducible exact H|(rw [hy356];exact H)|exact H
    have Ny356 := Aside0.mk hy356
    clear hy356
    replace H := Option.bind_eq_some_iff.mp H
    obtain ⟨t359,A80,H⟩ := H
    replace H : (impl_PlainOrd.l0 kj2 y356 t359 (wrap64 ((t359.length : Int) - 1))) = some r := H
    have A8 := Aside0.mk A80
    clear A80
    have H' := Aside0.mk H
    clear H
    go_wp2_with (first|((with_reducible refine gate_dst (N := 24) rfl ?_);refine Kd.R_lit k69 _ 69 ?hg (N := 24) ?hd (xs := ([] : List (S69))) (inner := []) (ok := fun _ => True) (okp := fun _ => True) ?hr ?hp (fun _ hk => hk) trivial (Below.refl _ _) (Nat.le_refl _) (by simp) ?_;(case hd => rfl);(case hg => rfl);(case hr => first|(go_simp;done)|(go_simp;rfl));(case hp => exact (Reps.none _ _));intro v357 w9 ho10 hb hg_ hnew_;clear hg_ hnew_;(first|rw [← Ny356.out] at ho10|(simp only [Int.reduceToNat] at ho10;rw [← Ny356.out] at ho10));have n0_ := Aside0.mk (Kd.R_lower ho10 (below_size bz));have n1_ := Aside0.mk (below_step bz hb);clear HB;have HO358 := n0_;have HB := n1_;clear n0_ n1_;clear hb ho10)|((with_reducible refine gate_callee (f := 58) rfl ?_);refine goesL_ (some 27) rfl rfl Try.func58 (by kernel_rfl) rfl #[.int .i64 a0,.int .i64 a1] rfl az ?_;(with_reducible refine (impl_digits.calls kj2 a0 a1 t359 _ A8.out).mono ?_);rintro e w11 ⟨v360,rfl,ho0,hb⟩;refine ⟨_,rfl,?_⟩;have n0_ := Aside0.mk (Kd.R_below (Kd.Rz HO358.out) hb);have n1_ := Aside0.mk (Kd.R_lower ho0 (below_size bz));have n2_ := Aside0.mk (below_step bz hb);clear HO358;clear HB;have HO358 := n0_;have HO361 := n1_;have HB := n2_;clear n0_ n1_ n2_;(try clear hb);(try clear hb2);(try clear hk);(try clear hi);(try clear ho0);obtain ⟨Ao12,co12,eo12⟩ := Kd.R_slice HO361.out;subst eo12))
    go_loopg [5,7] kj2 (fun kq v5 v7 w' => ∃ (x5_2 : List (S69)) (x7_2 : Int),v7 = .int .i64 x7_2 ∧ Aside0 (impl_PlainOrd.l0 kq x5_2 t359 x7_2 = some r) ∧ Aside0 (kq ≤ kj2) ∧ Aside0 (Kd.R k69 69 w' w.heap.size (fun _ => True) v5 x5_2) ∧ Aside0 (Kd.R (Kd.int .i64) 3 w' w.heap.size (fun _ => True) (.slice Ao12 t359.length co12) t359) ∧ Aside0 (Below w.heap.size w w'))
    case atStart => exact ⟨(y356),(wrap64 ((t359.length : Int) - 1)),(by first|rfl|(simp;done)|(simp [*];done)),H',⟨Nat.le_refl _⟩,⟨by (with_reducible repeat (first|apply Kd.R_alloc|apply Kd.R_drewN|apply Kd.R_drew));exact HO358.out⟩,⟨by (with_reducible repeat (first|apply Kd.R_alloc|apply Kd.R_drewN|apply Kd.R_drew));exact HO361.out⟩,⟨bz⟩⟩
    case round =>
     clear H'
     try clear c2
     try clear p2
     try clear c4
     try clear c4b0
     try clear c5
     try clear c5b0
     try clear c6
     try clear c6b0
     try clear p6
     try clear c7
     try clear p2
     obtain ⟨x5_2,x7_2,rfl,HA,HK2,HO_5,HO_6,HB⟩ := hrel
     cases gk with
     | zero => exact absurd HA.out (by simp [impl_PlainOrd.l0])
     | succ k2 =>
      have H := HA.out
      clear HA
      simp only [impl_PlainOrd.l0] at H
      by_cases c13 : x7_2 ≥ 0
      ·rw [if_pos c13] at H
       have c13b0 : decide (0 ≤ x7_2) = true := decide_eq_true c13
       clear c13
       by_cases c14 : 0 ≤ x7_2
       ·rw [if_pos c14] at H
        have c14b0 : decide (0 ≤ x7_2) = true := decide_eq_true c14
        clear c14
        by_cases c15 : x7_2 < (t359.length : Int)
        ·rw [if_pos c15] at H
         have c15b0 : decide (x7_2 < (t359.length : Int)) = true := decide_eq_true c15
         clear c15
         by_cases c16 : (rd t359 x7_2) > 0
         ·rw [if_pos c16] at H
          have c16b0 : decide (0 < (rd t359 x7_2)) = true := decide_eq_true c16
          clear c16
          replace H := Option.bind_eq_some_iff.mp H
          obtain ⟨t364,A170,H⟩ := H
          replace H : (if x5_2.length < 4398046511104 then (impl_PlainOrd.l0 k2 (x5_2 ++ [(⟨rd t359 x7_2,t364⟩ : S69)]) t359 (wrap64 (x7_2 - 1))) else (none)) = some r := H
          have A17 := Aside0.mk A170
          clear A170
          by_cases c18 : x5_2.length < 4398046511104
          ·rw [if_pos c18] at H
           have LMc18 := Aside0.mk c18
           clear c18
           obtain ⟨y367,hy367⟩ : ∃ y_ : List (S69),y_ = (x5_2 ++ [(⟨rd t359 x7_2,t364⟩ : S69)]) := ⟨_,rfl⟩
           replace H : (impl_PlainOrd.l0 k2 y367 t359 (wrap64 (x7_2 - 1))) = some r := by first|(rw [hy367];with_reducible exact H)|(have H2_ := (Option.bind_some _ _).symm.trans H;rw [hy367];with_reducible exact H2_)|(have H2_ := (Option.bind_some _ _).symm.trans H;with_reducible exact H2_)|with_reducible exact H|(rw [hy367];exact H)|exact H
           have Ny367 := Aside0.mk hy367
           clear hy367
           have H' := Aside0.mk H
           clear H
           have p362 : 0 ≤ (x7_2 : Int) := dz
           have q362 : x7_2 < (t359.length : Int) := dz
           obtain ⟨ad362,e362,hx362_0⟩ := Kd.at_int (Kd.R_reads' HO_6.out).2.2 x7_2 p362 q362
           cases e362
           replace p362 := eq_true p362
           replace q362 := eq_true q362
           try go_wp2
           have n0_ := Aside0.mk (Kd.R_drew HO_5.out)
           have n1_ := Aside0.mk (Kd.R_drew HO_6.out)
           have n2_ := Aside0.mk (below_drew1 HB.out)
           clear HO_5
           clear HO_6
           clear HB
           have HO_5 := n0_
           have HO_6 := n1_
           have HB := n2_
           clear n0_ n1_ n2_
           have p363 : 0 ≤ (x7_2 : Int) := dz
           have q363 : x7_2 < (t359.length : Int) := dz
           obtain ⟨ad363,e363,hx363_0⟩ := Kd.at_int (Kd.R_reads' HO_6.out).2.2 x7_2 p363 q363
           obtain rfl : ad362 = ad363 := (by injection e363)
           replace p363 := eq_true p363
           replace q363 := eq_true q363
           refine start_ (n := 11) (S := fun w' => w'.cell? (ad362.add (x7_2).toNat) = some (.int .i64 (rd t359 x7_2))) (ds := [8,9]) #[false,false,false,false,false,false,false,false,false,false,false] (by kernel_rfl) rfl rfl (hx363_0) (fun hHeld => ?_);refine with_tabW impl_PlainOrd.tab9 impl_PlainOrd.bits9 (fun HT_ HW_ => ?_)
           generalize wr.drew = w19 at HO_5 HO_6 HB hx363_0 hHeld ⊢
           refine pure_ (i := 0) (N := some 40) (v := ?_) (a' := ?_) #[true,false,false,false,false,false,false,false,false,false,false] rfl rfl (any_of HT_.out (by kernel_rfl)) (fun _ _ _ h => h) (Or.inl ⟨by rfl,?_⟩) ?_ ?_
           rotate_left
           ·intro w'
            go_simp
            with_reducible rfl
           rotate_left
           ·simp only [Act.put,List.setIfInBounds_toArray,List.set_cons_zero,List.set_cons_succ,i64_w,i32_w]
            rfl
           refine pure_ (i := 1) (N := some 41) (v := ?_) (a' := ?_) #[true,true,false,false,false,false,false,false,false,false,false] rfl rfl (any_of HT_.out (by kernel_rfl)) (fun _ _ _ h => h) (Or.inl ⟨by rfl,?_⟩) ?_ ?_
           rotate_left
           ·intro w'
            go_simp
            with_reducible rfl
           rotate_left
           ·simp only [Act.put,List.setIfInBounds_toArray,List.set_cons_zero,List.set_cons_succ,i64_w,i32_w]
            rfl
           refine pure_ (i := 2) (N := some 42) (v := ?_) (a' := ?_) #[true,true,true,false,false,false,false,false,false,false,false] rfl rfl (any_of HT_.out (by kernel_rfl)) (fun _ _ _ h => h) (Or.inl ⟨by rfl,?_⟩) ?_ ?_
           rotate_left
           ·intro w'
            go_simp
            with_reducible rfl
           rotate_left
           ·simp only [Act.put,List.setIfInBounds_toArray,List.set_cons_zero,List.set_cons_succ,i64_w,i32_w]
            rfl
           refine pure_ (i := 3) (N := some 43) (v := ?_) (a' := ?_) #[true,true,true,true,false,false,false,false,false,false,false] rfl rfl (any_of HT_.out (by kernel_rfl)) (fun _ _ _ h => h) (Or.inl ⟨by rfl,?_⟩) ?_ ?_
           rotate_left
           ·intro w'
            go_simp
            with_reducible rfl
           rotate_left
           ·simp only [Act.put,List.setIfInBounds_toArray,List.set_cons_zero,List.set_cons_succ,i64_w,i32_w]
            rfl
           refine pure_ (i := 5) (N := some 45) (v := ?_) (a' := ?_) #[true,true,true,true,false,true,false,false,false,false,false] rfl rfl (any_of HT_.out (by kernel_rfl)) (fun _ _ _ h => h) (Or.inl ⟨by rfl,?_⟩) ?_ ?_
           rotate_left
           ·intro w'
            go_simp
            with_reducible rfl
           rotate_left
           ·simp only [Act.put,List.setIfInBounds_toArray,List.set_cons_zero,List.set_cons_succ,i64_w,i32_w]
            rfl
           refine take_ (i := 4) (N := some 44) (v := ?_) (a' := ?_) #[true,true,true,true,true,true,false,false,false,false,false] rfl rfl (take_ofW HT_.out HW_.out (by kernel_rfl)) (fun _ _ _ h => h) (Or.inl ⟨by rfl,?_⟩) hHeld ?_ ?_
           rotate_left
           ·intro w' s0
            go_simp
            with_reducible rfl
           rotate_left
           ·simp only [Act.put,List.setIfInBounds_toArray,List.set_cons_zero,List.set_cons_succ,i64_w,i32_w]
            rfl
           refine one_ (i := 6) (N := some 46) #[true,true,true,true,true,true,true,false,false,false,false] rfl rfl (one_of HT_.out (by kernel_rfl)) (by decide) (fun K hK => ?_)
           refine goes_ Try.func59 (by kernel_rfl) rfl #[.int .i64 x7_2] (by rfl) rfl rfl az ?_
           with_reducible refine (impl_number.calls x7_2 t364 _ A17.out).mono ?_
           rintro e w20 ⟨v365,rfl,ho0,hb⟩
           have HS0_ := (hb.cell (World.block_lt_of_cell? _ _ (hHeld))).trans (hHeld)
           refine ⟨_,rfl,?_⟩
           have n0_ := Aside0.mk (Kd.R_elder' (Kd.Rz HO_5.out) (Kd.R_base ho0) hb)
           have n1_ := Aside0.mk (Kd.R_below (Kd.Rz HO_6.out) hb)
           have n2_ := Aside0.mk (Kd.R_lower (Kd.R_new' ho0 (Kd.R_lt (Kd.Rz HO_5.out))) (below_size bz))
           have n3_ := Aside0.mk (below_step bz hb)
           clear HO_5
           clear HO_6
           clear HB
           have HO_5 := n0_
           have HO_6 := n1_
           have HO366 := n2_
           have HB := n3_
           clear n0_ n1_ n2_ n3_
           (try clear hb)
           (try clear hb2)
           (try clear hk)
           (try clear hi)
           (try clear ho0)
           obtain ⟨Ao21,co21,eo21⟩ := Kd.R_slice HO366.out
           (first|subst eo21|(injection eo21 with f1_ f2_ f3_;have f4_ := f1_.symm;have f5_ := f3_.symm;clear f1_ f2_ f3_;subst f4_;subst f5_))
           refine hK.out _ _ (HS0_) (fun hHeld => ?_)
           clear hK K
           refine norm_ (a' := ?_) ?_ ?_
           rotate_left
           ·show Act.put _ (some 46) _ = _
            simp only [Act.put,List.setIfInBounds_toArray,List.set_cons_zero,List.set_cons_succ,i64_w,i32_w]
            rfl
           refine pure_ (i := 7) (N := some 47) (v := ?_) (a' := ?_) #[true,true,true,true,true,true,true,true,false,false,false] rfl rfl (any_of HT_.out (by kernel_rfl)) (fun _ _ _ h => h) (Or.inl ⟨by rfl,?_⟩) ?_ ?_
           rotate_left
           ·intro w'
            go_simp
            with_reducible rfl
           rotate_left
           ·simp only [Act.put,List.setIfInBounds_toArray,List.set_cons_zero,List.set_cons_succ,i64_w,i32_w]
            rfl
           refine last_ (i := 8) (N := some 48) #[true,true,true,true,true,true,true,true,true,false,false] rfl rfl (one_of HT_.out (by kernel_rfl)) (by decide) (fun K hK => ?_)
           refine value_ (w1 := ?_) (v := ?_) (by rfl) rfl ?_ ?_
           rotate_left 2
           ·go_simp
            constructor
            ·rfl
            ·rfl
           refine hK.out _ _ ?_
           clear hK K
           refine norm_ (a' := ?_) ?_ ?_
           rotate_left
           ·show Act.put _ (some 48) _ = _
            simp only [Act.put,List.setIfInBounds_toArray,List.set_cons_zero,List.set_cons_succ,i64_w,i32_w]
            rfl
           refine last_ (i := 9) (N := some 49) #[true,true,true,true,true,true,true,true,true,true,false] rfl rfl (one_of HT_.out (by kernel_rfl)) (by decide) (fun K hK => ?_)
           refine Kd.R_append_step k69 (w0 := w) w.heap.size (by rfl) (.tmp 40) (.tmp 48) 58 69 (.agg #[(.int .i64 0),(.slice none 0 0)]) 32 rfl Try.underlying58 info69 rfl (by decide) (by omega) u5 x5_2 (⟨rd t359 x7_2,t364⟩ : S69) [.int .i64 (rd t359 x7_2),.slice Ao21 t364.length co21] (fun _ => True) (fun k_ => ((fun _ => True)) k_ ∧ some k_ ≠ (u5 : Value).ownBlock) rfl rfl ?aP (fun _ hk => hk) ?aF ?aO ?aB ?aS ?aL ?_
           (case aP => exact k69_mkM _ _ _ (⟨rd t359 x7_2,t364⟩ : S69) (Kd.R_mono (HO366.out) (fun k_ hk => ⟨trivial,hk.2⟩)))
           (case aB => exact bz)
           (case aF => exact (fun _ _ => trivial))
           (case aO => exact (by (with_reducible repeat (first|apply Kd.R_alloc|apply Kd.R_drewN|apply Kd.R_drew));exact Kd.R_mono HO_5.out (fun _ hk => trivial)))
           (case aS => exact (below_size bz))
           (case aL => have := LMc18.out;omega)
           intro v368 w22 ho hb hg hat
           rw [← Ny367.out] at ho
           have n0_ := Aside0.mk (Kd.R_over' (Kd.Rz HO_6.out) (Kd.R_typed (Kd.Rz HO_5.out)) (by decide) hg)
           have n1_ := Aside0.mk (hb)
           have n2_ := Aside0.mk (ho)
           clear HO_6
           clear HB
           clear HO_5
           clear HO366
           have HO_6 := n0_
           have HB := n1_
           have HO369 := n2_
           clear n0_ n1_ n2_
           clear ho hb hg hat
           refine hK.out _ _ ?_
           clear hK K
           refine norm_ (a' := ?_) ?_ ?_
           rotate_left
           ·show Act.put _ (some 49) _ = _
            simp only [Act.put,List.setIfInBounds_toArray,List.set_cons_zero,List.set_cons_succ,i64_w,i32_w]
            rfl
           refine pure_ (i := 10) (N := some 5) (v := ?_) (a' := ?_) #[true,true,true,true,true,true,true,true,true,true,true] rfl rfl (any_of HT_.out (by kernel_rfl)) (fun _ _ _ h => h) (Or.inl ⟨by rfl,?_⟩) ?_ ?_
           rotate_left
           ·intro w'
            go_simp
            with_reducible rfl
           rotate_left
           ·simp only [Act.put,List.setIfInBounds_toArray,List.set_cons_zero,List.set_cons_succ,i64_w,i32_w]
            rfl
           refine done_ (done_of HT_.out (by kernel_rfl)) ?_
           try go_wp2
           go_roundg k2
           case measure => have := HJ2.out;have := HK2.out;omega
           case rel => exact ⟨(y367),(wrap64 (x7_2 - 1)),(by first|rfl|(simp;done)|(simp [*];done)),H',⟨by have := HJ2.out;have := HK2.out;omega⟩,⟨by (with_reducible repeat (first|apply Kd.R_alloc|apply Kd.R_drewN|apply Kd.R_drew));exact HO369.out⟩,⟨by (with_reducible repeat (first|apply Kd.R_alloc|apply Kd.R_drewN|apply Kd.R_drew));exact HO_6.out⟩,⟨bz⟩⟩
          ·rw [if_neg c18] at H
           exact absurd H (by simp)
         ·rw [if_neg c16] at H
          have c16b0 : decide (0 < (rd t359 x7_2)) = false := decide_eq_false c16
          clear c16
          have H' := Aside0.mk H
          clear H
          have p362 : 0 ≤ (x7_2 : Int) := dz
          have q362 : x7_2 < (t359.length : Int) := dz
          obtain ⟨ad362,e362,hx362_0⟩ := Kd.at_int (Kd.R_reads' HO_6.out).2.2 x7_2 p362 q362
          cases e362
          replace p362 := eq_true p362
          replace q362 := eq_true q362
          go_wp2
          go_roundg k2
          case measure => have := HJ2.out;have := HK2.out;omega
          case rel => exact ⟨(x5_2),(wrap64 (x7_2 - 1)),(by first|rfl|(simp;done)|(simp [*];done)),H',⟨by have := HJ2.out;have := HK2.out;omega⟩,⟨by (with_reducible repeat (first|apply Kd.R_alloc|apply Kd.R_drewN|apply Kd.R_drew));exact HO_5.out⟩,⟨by (with_reducible repeat (first|apply Kd.R_alloc|apply Kd.R_drewN|apply Kd.R_drew));exact HO_6.out⟩,⟨bz⟩⟩
        ·rw [if_neg c15] at H
         exact absurd H (by simp)
       ·rw [if_neg c14] at H
        exact absurd H (by simp)
      ·rw [if_neg c13] at H
       have c13b0 : decide (0 ≤ x7_2) = false := decide_eq_false c13
       clear c13
       replace H := Option.bind_eq_some_iff.mp H
       obtain ⟨⟨t370,t371⟩,A230,H⟩ := H
       replace H : (some t370) = some r := H
       have A23 := Aside0.mk A230
       clear A230
       obtain rfl := Option.some.inj H
       obtain ⟨Ao24,co24,eo24⟩ := Kd.R_slice HO_5.out
       subst eo24
       go_wp2_with (first|((with_reducible refine gate_callee (f := 49) rfl ?_);refine goesL_ (some 52) rfl rfl Try.func49 (by kernel_rfl) rfl #[.slice Ao24 x5_2.length co24] rfl az ?_;(with_reducible refine (impl_told.calls k2 _ _ x5_2 t370 t371 _ ?side1 ?side2 A23.out).mono ?_);(case side1 => exact Kd.Cz (Kd.R_reads' HO_5.out).2.2);(case side2 => exact (Kd.R_reads' HO_5.out).2.1);rintro e w25 ⟨v372,rfl,ho0,hb⟩;refine ⟨_,rfl,?_⟩;have n0_ := Aside0.mk (Kd.R_below (Kd.Rz HO_5.out) hb);have n1_ := Aside0.mk (Kd.R_elder' (Kd.Rz HO_6.out) (Kd.R_base ho0) hb);have n2_ := Aside0.mk (Kd.R_lower (Kd.R_new' ho0 (Kd.R_lt (Kd.Rz HO_6.out))) (below_size bz));have n3_ := Aside0.mk (below_step bz hb);clear HO_5;clear HO_6;clear HB;have HO_5 := n0_;have HO_6 := n1_;have HO373 := n2_;have HB := n3_;clear n0_ n1_ n2_ n3_;(try clear hb);(try clear hb2);(try clear hk);(try clear hi);(try clear ho0)))
       go_ret
       exact ⟨_,by first|rfl|(simp [errW_none,errW_some] <;> rfl)|(simp [*,errW_none,errW_some] <;> rfl),by (with_reducible repeat (first|apply Kd.R_alloc|apply Kd.R_drewN|apply Kd.R_drew));exact Kd.R_mono HO373.out (fun _ hk => trivial),bz⟩

end Go.Proofs.Ytpgkpahhohfmhaa.P
