/- The walk of one Go function that the law reaches: it comes to what the Lean function of its name tells. -/
import Derived.Test.YtpgkpahhohfmhaaP0
import Derived.Test.YtpgkpahhohfmhaaPimpldigits
namespace Go.Proofs.Ytpgkpahhohfmhaa.P
open Go.RowKit Go.Proofs.YtpgkpahhohfmhaaW.PrintWords Go.Proofs.YtpgkpahhohfmhaaW.PrintLast Go.Proofs.YtpgkpahhohfmhaaW.PrintMore
attribute [local go_sem] max2_int min2_int max_two min_two max_three min_three max_four min_four   
set_option linter.unusedVariables false
set_option linter.unusedSimpArgs false

/-! ### impl_inBase: function 50 -/
mutual
def impl_inBase.l0 : Nat → Int → List (S69) → List Int → Int → Option ((List (S69)))
 | 0,_,_,_,_ => none
 | k + 1,x1,x5,x6,x7 => if x7 ≥ 0 then (if 0 ≤ x7 then (if x7 < (x6.length : Int) then (if (rd x6 x7) > 0 then ((impl_inBase.f k x7 x1).bind fun t184 => (if x5.length < 4398046511104 then (impl_inBase.l0 k x1 (x5 ++ [(⟨rd x6 x7,t184⟩ : S69)]) x6 (wrap64 (x7 - 1))) else (none))) else (impl_inBase.l0 k x1 x5 x6 (wrap64 (x7 - 1)))) else (none)) else (none)) else (some x5)
def impl_inBase.f : Nat → Int → Int → Option ((List (S69)))
 | 0,_,_ => none
 | k + 1,a0,a1 => (impl_digits.f k a0 a1).bind fun t179 => (impl_inBase.l0 k a1 (([] : List (S69))) t179 (wrap64 ((t179.length : Int) - 1)))
end
theorem impl_inBase.mono_l : ∀ k,(∀ y0 y1,LeO (impl_inBase.f k y0 y1) (impl_inBase.f (k + 1) y0 y1)) ∧ (∀ y0 y1 y2 y3,LeO (impl_inBase.l0 k y0 y1 y2 y3) (impl_inBase.l0 (k + 1) y0 y1 y2 y3))
 | 0 => ⟨fun _ _ r h => by simp [impl_inBase.f] at h,fun _ _ _ _ r h => by simp [impl_inBase.l0] at h⟩
 | k + 1 => by
  obtain ⟨ih0,ih1⟩ := impl_inBase.mono_l k
  refine ⟨?_,?_⟩
  ·intro y0 y1
   unfold impl_inBase.f
   repeat' first|(with_reducible first|exact ih0 _ _|exact ih1 _ _ _ _|exact impl_digits.mono _ _ _|exact LeO.refl _|exact LeO.none _|refine LeO.ite ?_ ?_|refine LeO.bind ?_ (fun _ => ?_))|exact ih0 _ _|exact ih1 _ _ _ _|exact impl_digits.mono _ _ _|exact LeO.none _|refine LeO.ite ?_ ?_|refine LeO.bind ?_ (fun _ => ?_)
  ·intro y0 y1 y2 y3
   unfold impl_inBase.l0
   repeat' first|(with_reducible first|exact ih0 _ _|exact ih1 _ _ _ _|exact LeO.refl _|exact LeO.none _|refine LeO.ite ?_ ?_|refine LeO.bind ?_ (fun _ => ?_))|exact ih0 _ _|exact ih1 _ _ _ _|exact LeO.none _|refine LeO.ite ?_ ?_|refine LeO.bind ?_ (fun _ => ?_)
theorem impl_inBase.mono : ∀ a0 a1 k,LeO (impl_inBase.f k a0 a1) (impl_inBase.f (k + 1) a0 a1) := by
 intro a0 a1 k
 obtain ⟨ih0,ih1⟩ := impl_inBase.mono_l k
 exact ih0 a0 a1
def impl_inBase.T7 : Bool × List (List Nat × List Nat) := (true,[([],[]),([],[]),([],[]),([1,2],[1,2]),([3],[3]),([],[]),([],[]),([5,6],[5,6]),([4,7],[4,7]),([8],[8]),([0,9,7],[0,9]),([10,10,0,1,2,3,4,5,6,7,8,9,10],[0,10])])
def impl_inBase.B7 : List Nat := [0,0,0,6,14,0,0,96,254,510,1023,2047]
theorem impl_inBase.tab7 : rtab .any (opsOf Try.f50 7) = impl_inBase.T7 := by kernel_rfl
theorem impl_inBase.bits7 : waitsOk impl_inBase.T7.2 impl_inBase.B7 = true := by kernel_rfl
set_option maxHeartbeats 8000000 in
set_option maxRecDepth 100000 in
theorem impl_inBase.calls (k : Nat) : ∀ (a0 : Int) (a1 : Int) (r : List (S69)) (w : World) (h : impl_inBase.f k a0 a1 = some r),
  Calls Try.prog 50 #[.int .i64 a0,.int .i64 a1] w fun e w' => ∃ v0_ : Value,e = .returned (v0_) ∧ Kd.R k69 69 w' w.heap.size (fun _ => True) v0_ r ∧ Below w.heap.size w w' := by
 induction k using Nat.strongRecOn with
 | _ k ih =>
 intro a0 a1 r w h
 cases k with
 | zero => exact absurd h (by simp [impl_inBase.f])
 | succ k =>
 simp only [impl_inBase.f] at h
 have hu69 := Try.underlying69
 have HB := Aside0.mk (Below.refl w.heap.size w)
 have H : ((impl_digits.f k a0 a1).bind fun t179 => (impl_inBase.l0 k a1 (([] : List (S69))) t179 (wrap64 ((t179.length : Int) - 1)))) = some r := h
 clear h
 obtain ⟨y176,hy176⟩ : ∃ y_ : List (S69),y_ = (([] : List (S69))) := ⟨_,rfl⟩
 replace H : ((impl_digits.f k a0 a1).bind fun t179 => (impl_inBase.l0 k a1 y176 t179 (wrap64 ((t179.length : Int) - 1)))) = some r := by first|(rw [hy176];with_reducible exact H)|(have H2_ := (Option.bind_some _ _).symm.trans H;rw [hy176];with_reducible exact H2_)|(have H2_ := (Option.bind_some _ _).symm.trans H;with_reducible exact H2_)|with_reducible exact H|(rw [hy176];exact H)|exact H
 have Ny176 := Aside0.mk hy176
 clear hy176
 replace H := Option.bind_eq_some_iff.mp H
 obtain ⟨t179,A30,H⟩ := H
 replace H : (impl_inBase.l0 k a1 y176 t179 (wrap64 ((t179.length : Int) - 1))) = some r := H
 have A3 := Aside0.mk A30
 clear A30
 have H' := Aside0.mk H
 clear H
 go_enter Try.func50,Try.ntmps50
 go_wp2_with (first|((with_reducible refine gate_dst (N := 8) rfl ?_);refine Kd.R_lit k69 _ 69 ?hg (N := 8) ?hd (xs := ([] : List (S69))) (inner := []) (ok := fun _ => True) (okp := fun _ => True) ?hr ?hp (fun _ hk => hk) trivial (Below.refl _ _) (Nat.le_refl _) (by simp) ?_;(case hd => rfl);(case hg => rfl);(case hr => first|(go_simp;done)|(go_simp;rfl));(case hp => exact (Reps.none _ _));intro v177 w4 ho5 hb hg_ hnew_;clear hg_ hnew_;(first|rw [← Ny176.out] at ho5|(simp only [Int.reduceToNat] at ho5;rw [← Ny176.out] at ho5));have n0_ := Aside0.mk (Kd.R_lower ho5 (below_size bz));have n1_ := Aside0.mk (below_step bz hb);clear HB;have HO178 := n0_;have HB := n1_;clear n0_ n1_;clear hb ho5)|((with_reducible refine gate_callee (f := 58) rfl ?_);refine goesL_ (some 11) rfl rfl Try.func58 (by kernel_rfl) rfl #[.int .i64 a0,.int .i64 a1] rfl az ?_;(with_reducible refine (impl_digits.calls k a0 a1 t179 _ A3.out).mono ?_);rintro e w6 ⟨v180,rfl,ho0,hb⟩;refine ⟨_,rfl,?_⟩;have n0_ := Aside0.mk (Kd.R_below (Kd.Rz HO178.out) hb);have n1_ := Aside0.mk (Kd.R_lower ho0 (below_size bz));have n2_ := Aside0.mk (below_step bz hb);clear HO178;clear HB;have HO178 := n0_;have HO181 := n1_;have HB := n2_;clear n0_ n1_ n2_;(try clear hb);(try clear hb2);(try clear hk);(try clear hi);(try clear ho0);obtain ⟨Ao7,co7,eo7⟩ := Kd.R_slice HO181.out;subst eo7))
 go_loopg [5,7] k (fun kq v5 v7 w' => ∃ (x5_1 : List (S69)) (x7_1 : Int),v7 = .int .i64 x7_1 ∧ Aside0 (impl_inBase.l0 kq a1 x5_1 t179 x7_1 = some r) ∧ Aside0 (kq ≤ k) ∧ Aside0 (Kd.R k69 69 w' w.heap.size (fun _ => True) v5 x5_1) ∧ Aside0 (Kd.R (Kd.int .i64) 3 w' w.heap.size (fun _ => True) (.slice Ao7 t179.length co7) t179) ∧ Aside0 (Below w.heap.size w w'))
 case atStart => exact ⟨(y176),(wrap64 ((t179.length : Int) - 1)),(by first|rfl|(simp;done)|(simp [*];done)),H',⟨Nat.le_refl _⟩,⟨by (with_reducible repeat (first|apply Kd.R_alloc|apply Kd.R_drewN|apply Kd.R_drew));exact HO178.out⟩,⟨by (with_reducible repeat (first|apply Kd.R_alloc|apply Kd.R_drewN|apply Kd.R_drew));exact HO181.out⟩,⟨bz⟩⟩
 case round =>
  clear H'
  try clear p2
  try clear c5
  try clear p6
  obtain ⟨x5_1,x7_1,rfl,HA,HK1,HO_5,HO_6,HB⟩ := hrel
  cases gk with
  | zero => exact absurd HA.out (by simp [impl_inBase.l0])
  | succ k1 =>
   have H := HA.out
   clear HA
   simp only [impl_inBase.l0] at H
   by_cases c8 : x7_1 ≥ 0
   ·rw [if_pos c8] at H
    have c8b0 : decide (0 ≤ x7_1) = true := decide_eq_true c8
    clear c8
    by_cases c9 : 0 ≤ x7_1
    ·rw [if_pos c9] at H
     have c9b0 : decide (0 ≤ x7_1) = true := decide_eq_true c9
     clear c9
     by_cases c10 : x7_1 < (t179.length : Int)
     ·rw [if_pos c10] at H
      have c10b0 : decide (x7_1 < (t179.length : Int)) = true := decide_eq_true c10
      clear c10
      by_cases c11 : (rd t179 x7_1) > 0
      ·rw [if_pos c11] at H
       have c11b0 : decide (0 < (rd t179 x7_1)) = true := decide_eq_true c11
       clear c11
       replace H := Option.bind_eq_some_iff.mp H
       obtain ⟨t184,A120,H⟩ := H
       replace H : (if x5_1.length < 4398046511104 then (impl_inBase.l0 k1 a1 (x5_1 ++ [(⟨rd t179 x7_1,t184⟩ : S69)]) t179 (wrap64 (x7_1 - 1))) else (none)) = some r := H
       have A12 := Aside0.mk A120
       clear A120
       by_cases c13 : x5_1.length < 4398046511104
       ·rw [if_pos c13] at H
        have LMc13 := Aside0.mk c13
        clear c13
        obtain ⟨y187,hy187⟩ : ∃ y_ : List (S69),y_ = (x5_1 ++ [(⟨rd t179 x7_1,t184⟩ : S69)]) := ⟨_,rfl⟩
        replace H : (impl_inBase.l0 k1 a1 y187 t179 (wrap64 (x7_1 - 1))) = some r := by first|(rw [hy187];with_reducible exact H)|(have H2_ := (Option.bind_some _ _).symm.trans H;rw [hy187];with_reducible exact H2_)|(have H2_ := (Option.bind_some _ _).symm.trans H;with_reducible exact H2_)|with_reducible exact H|(rw [hy187];exact H)|exact H
        have Ny187 := Aside0.mk hy187
        clear hy187
        have H' := Aside0.mk H
        clear H
        have p182 : 0 ≤ (x7_1 : Int) := dz
        have q182 : x7_1 < (t179.length : Int) := dz
        obtain ⟨ad182,e182,hx182_0⟩ := Kd.at_int (Kd.R_reads' HO_6.out).2.2 x7_1 p182 q182
        cases e182
        replace p182 := eq_true p182
        replace q182 := eq_true q182
        try go_wp2
        have n0_ := Aside0.mk (Kd.R_drew HO_5.out)
        have n1_ := Aside0.mk (Kd.R_drew HO_6.out)
        have n2_ := Aside0.mk (below_drew1 HB.out)
        clear HO_5
        clear HO_6
        clear HB
        have HO_5 := n0_
        have HO_6 := n1_
        have HB := n2_
        clear n0_ n1_ n2_
        have p183 : 0 ≤ (x7_1 : Int) := dz
        have q183 : x7_1 < (t179.length : Int) := dz
        obtain ⟨ad183,e183,hx183_0⟩ := Kd.at_int (Kd.R_reads' HO_6.out).2.2 x7_1 p183 q183
        obtain rfl : ad182 = ad183 := (by injection e183)
        replace p183 := eq_true p183
        replace q183 := eq_true q183
        refine start_ (n := 12) (S := fun w' => w'.cell? (ad182.add (x7_1).toNat) = some (.int .i64 (rd t179 x7_1))) (ds := [9,10]) #[false,false,false,false,false,false,false,false,false,false,false,false] (by kernel_rfl) rfl rfl (hx183_0) (fun hHeld => ?_);refine with_tabW impl_inBase.tab7 impl_inBase.bits7 (fun HT_ HW_ => ?_)
        generalize wr.drew = w14 at HO_5 HO_6 HB hx183_0 hHeld ⊢
        refine pure_ (i := 0) (N := some 24) (v := ?_) (a' := ?_) #[true,false,false,false,false,false,false,false,false,false,false,false] rfl rfl (any_of HT_.out (by kernel_rfl)) (fun _ _ _ h => h) (Or.inl ⟨by rfl,?_⟩) ?_ ?_
        rotate_left
        ·intro w'
         go_simp
         with_reducible rfl
        rotate_left
        ·simp only [Act.put,List.setIfInBounds_toArray,List.set_cons_zero,List.set_cons_succ,i64_w,i32_w]
         rfl
        refine pure_ (i := 1) (N := some 25) (v := ?_) (a' := ?_) #[true,true,false,false,false,false,false,false,false,false,false,false] rfl rfl (any_of HT_.out (by kernel_rfl)) (fun _ _ _ h => h) (Or.inl ⟨by rfl,?_⟩) ?_ ?_
        rotate_left
        ·intro w'
         go_simp
         with_reducible rfl
        rotate_left
        ·simp only [Act.put,List.setIfInBounds_toArray,List.set_cons_zero,List.set_cons_succ,i64_w,i32_w]
         rfl
        refine pure_ (i := 2) (N := some 26) (v := ?_) (a' := ?_) #[true,true,true,false,false,false,false,false,false,false,false,false] rfl rfl (any_of HT_.out (by kernel_rfl)) (fun _ _ _ h => h) (Or.inl ⟨by rfl,?_⟩) ?_ ?_
        rotate_left
        ·intro w'
         go_simp
         with_reducible rfl
        rotate_left
        ·simp only [Act.put,List.setIfInBounds_toArray,List.set_cons_zero,List.set_cons_succ,i64_w,i32_w]
         rfl
        refine pure_ (i := 3) (N := some 27) (v := ?_) (a' := ?_) #[true,true,true,true,false,false,false,false,false,false,false,false] rfl rfl (any_of HT_.out (by kernel_rfl)) (fun _ _ _ h => h) (Or.inl ⟨by rfl,?_⟩) ?_ ?_
        rotate_left
        ·intro w'
         go_simp
         with_reducible rfl
        rotate_left
        ·simp only [Act.put,List.setIfInBounds_toArray,List.set_cons_zero,List.set_cons_succ,i64_w,i32_w]
         rfl
        refine pure_ (i := 5) (N := some 29) (v := ?_) (a' := ?_) #[true,true,true,true,false,true,false,false,false,false,false,false] rfl rfl (any_of HT_.out (by kernel_rfl)) (fun _ _ _ h => h) (Or.inl ⟨by rfl,?_⟩) ?_ ?_
        rotate_left
        ·intro w'
         go_simp
         with_reducible rfl
        rotate_left
        ·simp only [Act.put,List.setIfInBounds_toArray,List.set_cons_zero,List.set_cons_succ,i64_w,i32_w]
         rfl
        refine pure_ (i := 6) (N := some 30) (v := ?_) (a' := ?_) #[true,true,true,true,false,true,true,false,false,false,false,false] rfl rfl (any_of HT_.out (by kernel_rfl)) (fun _ _ _ h => h) (Or.inl ⟨by rfl,?_⟩) ?_ ?_
        rotate_left
        ·intro w'
         go_simp
         with_reducible rfl
        rotate_left
        ·simp only [Act.put,List.setIfInBounds_toArray,List.set_cons_zero,List.set_cons_succ,i64_w,i32_w]
         rfl
        refine take_ (i := 4) (N := some 28) (v := ?_) (a' := ?_) #[true,true,true,true,true,true,true,false,false,false,false,false] rfl rfl (take_ofW HT_.out HW_.out (by kernel_rfl)) (fun _ _ _ h => h) (Or.inl ⟨by rfl,?_⟩) hHeld ?_ ?_
        rotate_left
        ·intro w' s0
         go_simp
         with_reducible rfl
        rotate_left
        ·simp only [Act.put,List.setIfInBounds_toArray,List.set_cons_zero,List.set_cons_succ,i64_w,i32_w]
         rfl
        refine one_ (i := 7) (N := some 31) #[true,true,true,true,true,true,true,true,false,false,false,false] rfl rfl (one_of HT_.out (by kernel_rfl)) (by decide) (fun K hK => ?_)
        refine goes_ Try.func50 (by kernel_rfl) rfl #[.int .i64 x7_1,.int .i64 a1] (by rfl) rfl rfl az ?_
        with_reducible refine (ih k1 (by have := HK1.out;omega) x7_1 a1 t184 _ A12.out).mono ?_
        rintro e w15 ⟨v185,rfl,ho0,hb⟩
        have HS0_ := (hb.cell (World.block_lt_of_cell? _ _ (hHeld))).trans (hHeld)
        refine ⟨_,rfl,?_⟩
        have n0_ := Aside0.mk (Kd.R_elder' (Kd.Rz HO_5.out) (Kd.R_base ho0) hb)
        have n1_ := Aside0.mk (Kd.R_below (Kd.Rz HO_6.out) hb)
        have n2_ := Aside0.mk (Kd.R_lower (Kd.R_new' ho0 (Kd.R_lt (Kd.Rz HO_5.out))) (below_size bz))
        have n3_ := Aside0.mk (below_step bz hb)
        clear HO_5
        clear HO_6
        clear HB
        have HO_5 := n0_
        have HO_6 := n1_
        have HO186 := n2_
        have HB := n3_
        clear n0_ n1_ n2_ n3_
        (try clear hb)
        (try clear hb2)
        (try clear hk)
        (try clear hi)
        (try clear ho0)
        obtain ⟨Ao16,co16,eo16⟩ := Kd.R_slice HO186.out
        (first|subst eo16|(injection eo16 with f1_ f2_ f3_;have f4_ := f1_.symm;have f5_ := f3_.symm;clear f1_ f2_ f3_;subst f4_;subst f5_))
        refine hK.out _ _ (HS0_) (fun hHeld => ?_)
        clear hK K
        refine norm_ (a' := ?_) ?_ ?_
        rotate_left
        ·show Act.put _ (some 31) _ = _
         simp only [Act.put,List.setIfInBounds_toArray,List.set_cons_zero,List.set_cons_succ,i64_w,i32_w]
         rfl
        refine pure_ (i := 8) (N := some 32) (v := ?_) (a' := ?_) #[true,true,true,true,true,true,true,true,true,false,false,false] rfl rfl (any_of HT_.out (by kernel_rfl)) (fun _ _ _ h => h) (Or.inl ⟨by rfl,?_⟩) ?_ ?_
        rotate_left
        ·intro w'
         go_simp
         with_reducible rfl
        rotate_left
        ·simp only [Act.put,List.setIfInBounds_toArray,List.set_cons_zero,List.set_cons_succ,i64_w,i32_w]
         rfl
        refine last_ (i := 9) (N := some 33) #[true,true,true,true,true,true,true,true,true,true,false,false] rfl rfl (one_of HT_.out (by kernel_rfl)) (by decide) (fun K hK => ?_)
        refine value_ (w1 := ?_) (v := ?_) (by rfl) rfl ?_ ?_
        rotate_left 2
        ·go_simp
         constructor
         ·rfl
         ·rfl
        refine hK.out _ _ ?_
        clear hK K
        refine norm_ (a' := ?_) ?_ ?_
        rotate_left
        ·show Act.put _ (some 33) _ = _
         simp only [Act.put,List.setIfInBounds_toArray,List.set_cons_zero,List.set_cons_succ,i64_w,i32_w]
         rfl
        refine last_ (i := 10) (N := some 34) #[true,true,true,true,true,true,true,true,true,true,true,false] rfl rfl (one_of HT_.out (by kernel_rfl)) (by decide) (fun K hK => ?_)
        refine Kd.R_append_step k69 (w0 := w) w.heap.size (by rfl) (.tmp 24) (.tmp 33) 58 69 (.agg #[(.int .i64 0),(.slice none 0 0)]) 32 rfl Try.underlying58 info69 rfl (by decide) (by omega) u5 x5_1 (⟨rd t179 x7_1,t184⟩ : S69) [.int .i64 (rd t179 x7_1),.slice Ao16 t184.length co16] (fun _ => True) (fun k_ => ((fun _ => True)) k_ ∧ some k_ ≠ (u5 : Value).ownBlock) rfl rfl ?aP (fun _ hk => hk) ?aF ?aO ?aB ?aS ?aL ?_
        (case aP => exact k69_mkM _ _ _ (⟨rd t179 x7_1,t184⟩ : S69) (Kd.R_mono (HO186.out) (fun k_ hk => ⟨trivial,hk.2⟩)))
        (case aB => exact bz)
        (case aF => exact (fun _ _ => trivial))
        (case aO => exact (by (with_reducible repeat (first|apply Kd.R_alloc|apply Kd.R_drewN|apply Kd.R_drew));exact Kd.R_mono HO_5.out (fun _ hk => trivial)))
        (case aS => exact (below_size bz))
        (case aL => have := LMc13.out;omega)
        intro v188 w17 ho hb hg hat
        rw [← Ny187.out] at ho
        have n0_ := Aside0.mk (Kd.R_over' (Kd.Rz HO_6.out) (Kd.R_typed (Kd.Rz HO_5.out)) (by decide) hg)
        have n1_ := Aside0.mk (hb)
        have n2_ := Aside0.mk (ho)
        clear HO_6
        clear HB
        clear HO_5
        clear HO186
        have HO_6 := n0_
        have HB := n1_
        have HO189 := n2_
        clear n0_ n1_ n2_
        clear ho hb hg hat
        refine hK.out _ _ ?_
        clear hK K
        refine norm_ (a' := ?_) ?_ ?_
        rotate_left
        ·show Act.put _ (some 34) _ = _
         simp only [Act.put,List.setIfInBounds_toArray,List.set_cons_zero,List.set_cons_succ,i64_w,i32_w]
         rfl
        refine pure_ (i := 11) (N := some 5) (v := ?_) (a' := ?_) #[true,true,true,true,true,true,true,true,true,true,true,true] rfl rfl (any_of HT_.out (by kernel_rfl)) (fun _ _ _ h => h) (Or.inl ⟨by rfl,?_⟩) ?_ ?_
        rotate_left
        ·intro w'
         go_simp
         with_reducible rfl
        rotate_left
        ·simp only [Act.put,List.setIfInBounds_toArray,List.set_cons_zero,List.set_cons_succ,i64_w,i32_w]
         rfl
        refine done_ (done_of HT_.out (by kernel_rfl)) ?_
        try go_wp2
        go_roundg k1
        case measure => have := HK1.out;omega
        case rel => exact ⟨(y187),(wrap64 (x7_1 - 1)),(by first|rfl|(simp;done)|(simp [*];done)),H',⟨by have := HK1.out;omega⟩,⟨by (with_reducible repeat (first|apply Kd.R_alloc|apply Kd.R_drewN|apply Kd.R_drew));exact HO189.out⟩,⟨by (with_reducible repeat (first|apply Kd.R_alloc|apply Kd.R_drewN|apply Kd.R_drew));exact HO_6.out⟩,⟨bz⟩⟩
       ·rw [if_neg c13] at H
        exact absurd H (by simp)
      ·rw [if_neg c11] at H
       have c11b0 : decide (0 < (rd t179 x7_1)) = false := decide_eq_false c11
       clear c11
       have H' := Aside0.mk H
       clear H
       have p182 : 0 ≤ (x7_1 : Int) := dz
       have q182 : x7_1 < (t179.length : Int) := dz
       obtain ⟨ad182,e182,hx182_0⟩ := Kd.at_int (Kd.R_reads' HO_6.out).2.2 x7_1 p182 q182
       cases e182
       replace p182 := eq_true p182
       replace q182 := eq_true q182
       go_wp2
       go_roundg k1
       case measure => have := HK1.out;omega
       case rel => exact ⟨(x5_1),(wrap64 (x7_1 - 1)),(by first|rfl|(simp;done)|(simp [*];done)),H',⟨by have := HK1.out;omega⟩,⟨by (with_reducible repeat (first|apply Kd.R_alloc|apply Kd.R_drewN|apply Kd.R_drew));exact HO_5.out⟩,⟨by (with_reducible repeat (first|apply Kd.R_alloc|apply Kd.R_drewN|apply Kd.R_drew));exact HO_6.out⟩,⟨bz⟩⟩
     ·rw [if_neg c10] at H
      exact absurd H (by simp)
    ·rw [if_neg c9] at H
     exact absurd H (by simp)
   ·rw [if_neg c8] at H
    have c8b0 : decide (0 ≤ x7_1) = false := decide_eq_false c8
    clear c8
    obtain rfl := Option.some.inj H
    go_wp2
    go_ret
    exact ⟨_,by first|rfl|(simp [errW_none,errW_some] <;> rfl)|(simp [*,errW_none,errW_some] <;> rfl),by (with_reducible repeat (first|apply Kd.R_alloc|apply Kd.R_drewN|apply Kd.R_drew));exact HO_5.out,bz⟩

end Go.Proofs.Ytpgkpahhohfmhaa.P
