/- The walk of one Go function that the law reaches: it comes to what the Lean function of its name tells. -/
import Derived.Test.YtninfokihgbgpaaP0
import Derived.Test.YtninfokihgbgpaaPspecOrdKind
import Derived.Test.YtninfokihgbgpaaPspecl1Make
import Derived.Test.YtninfokihgbgpaaPspecl1Terms
namespace Go.Proofs.Ytninfokihgbgpaa.P
open Go.RowKit Go.Proofs.YtninfokihgbgpaaW.PrintWords Go.Proofs.YtninfokihgbgpaaW.PrintLast Go.Proofs.YtninfokihgbgpaaW.PrintMore
attribute [local go_sem] max2_int min2_int max_two min_two max_three min_three max_four min_four   
set_option linter.unusedVariables false
set_option linter.unusedSimpArgs false

/-! ### spec_OrdBefore: function 49 -/
def spec_OrdBefore.f (k : Nat) (l0 : List Int) : Option (List Int × Bool) := (spec_OrdKind.f k l0).bind fun t1007 => (if t1007 = 1 then ((spec_l1Terms.f k l0).bind fun bt1011 => (if 0 ≤ (wrap64 ((bt1011.1.length : Int) - 1)) then (if (wrap64 ((bt1011.1.length : Int) - 1)) < (bt1011.1.length : Int) then (if (rd bt1011.1 (wrap64 ((bt1011.1.length : Int) - 1))) = 1 then (if (wrap64 ((bt1011.1.length : Int) - 1)) ≤ (bt1011.1.length : Int) then (if (wrap64 ((bt1011.1.length : Int) - 1)) ≤ (bt1011.2.length : Int) then ((spec_l1Make.f k (bt1011.1.take ((wrap64 ((bt1011.1.length : Int) - 1)) : Int).toNat) (bt1011.2.take ((wrap64 ((bt1011.1.length : Int) - 1)) : Int).toNat)).bind fun t1028 => (some (t1028,true))) else (none)) else (none)) else ((spec_l1Make.f k (bt1011.1.set ((wrap64 ((bt1011.1.length : Int) - 1)) : Int).toNat (wrap64 ((rd bt1011.1 (wrap64 ((bt1011.1.length : Int) - 1))) - 1))) bt1011.2).bind fun t1033 => (some (t1033,true)))) else (none)) else (none))) else (some ((([] : List Int)),false)))
theorem spec_OrdBefore.mono : ∀ a0 k,LeO (spec_OrdBefore.f k a0) (spec_OrdBefore.f (k + 1) a0) := by
 intro a0 k
 unfold spec_OrdBefore.f
 repeat' first|(with_reducible first|exact spec_OrdKind.mono _ _|exact spec_l1Make.mono _ _ _|exact spec_l1Terms.mono _ _|exact LeO.refl _|exact LeO.none _|refine LeO.ite ?_ ?_|refine LeO.bind ?_ (fun _ => ?_))|exact spec_OrdKind.mono _ _|exact spec_l1Make.mono _ _ _|exact spec_l1Terms.mono _ _|exact LeO.none _|refine LeO.ite ?_ ?_|refine LeO.bind ?_ (fun _ => ?_)
def spec_OrdBefore.T6 : Bool × List (List Nat × List Nat) := (true,[([],[]),([],[]),([0,1],[0,1]),([],[]),([],[]),([3,4],[3,4]),([2,5],[2,5]),([6,6,0,1,2,3,4,5,6],[6]),([7,0,1,2,3,4,5,6,7],[])])
def spec_OrdBefore.B6 : List Nat := [0,0,3,0,0,24,63,127,255]
theorem spec_OrdBefore.tab6 : rtab .any (opsOf Try.f49 6) = spec_OrdBefore.T6 := by kernel_rfl
theorem spec_OrdBefore.bits6 : waitsOk spec_OrdBefore.T6.2 spec_OrdBefore.B6 = true := by kernel_rfl
set_option maxHeartbeats 8000000 in
set_option maxRecDepth 100000 in
theorem spec_OrdBefore.calls (k : Nat) (A0 : Option Addr) (c0 : Nat) (l0 : List Int) (r1 : List Int) (r2 : Bool) (w : World) (hr0 : Kd.C (Kd.int .i64) w A0 l0.length l0) (hc0 : l0.length ≤ c0) (h : spec_OrdBefore.f k l0 = some (r1,r2)) :
  Calls Try.prog 49 #[.slice A0 l0.length c0] w fun e w' => ∃ v0_ : Value,e = .returned (.tuple #[v0_,.bool r2]) ∧ Kd.R (Kd.int .i64) 3 w' w.heap.size (fun _ => True) v0_ r1 ∧ Below w.heap.size w w' := by
 have HR0 := Aside0.mk hr0
 have HC0 := Aside0.mk hc0
 clear hr0 hc0
 have HB := Aside0.mk (Below.refl w.heap.size w)
 have H : ((spec_OrdKind.f k l0).bind fun t1007 => (if t1007 = 1 then ((spec_l1Terms.f k l0).bind fun bt1011 => (if 0 ≤ (wrap64 ((bt1011.1.length : Int) - 1)) then (if (wrap64 ((bt1011.1.length : Int) - 1)) < (bt1011.1.length : Int) then (if (rd bt1011.1 (wrap64 ((bt1011.1.length : Int) - 1))) = 1 then (if (wrap64 ((bt1011.1.length : Int) - 1)) ≤ (bt1011.1.length : Int) then (if (wrap64 ((bt1011.1.length : Int) - 1)) ≤ (bt1011.2.length : Int) then ((spec_l1Make.f k (bt1011.1.take ((wrap64 ((bt1011.1.length : Int) - 1)) : Int).toNat) (bt1011.2.take ((wrap64 ((bt1011.1.length : Int) - 1)) : Int).toNat)).bind fun t1028 => (some (t1028,true))) else (none)) else (none)) else ((spec_l1Make.f k (bt1011.1.set ((wrap64 ((bt1011.1.length : Int) - 1)) : Int).toNat (wrap64 ((rd bt1011.1 (wrap64 ((bt1011.1.length : Int) - 1))) - 1))) bt1011.2).bind fun t1033 => (some (t1033,true)))) else (none)) else (none))) else (some ((([] : List Int)),false)))) = some (r1,r2) := h
 clear h
 replace H := Option.bind_eq_some_iff.mp H
 obtain ⟨t1007,A20,H⟩ := H
 replace H : (if t1007 = 1 then ((spec_l1Terms.f k l0).bind fun bt1011 => (if 0 ≤ (wrap64 ((bt1011.1.length : Int) - 1)) then (if (wrap64 ((bt1011.1.length : Int) - 1)) < (bt1011.1.length : Int) then (if (rd bt1011.1 (wrap64 ((bt1011.1.length : Int) - 1))) = 1 then (if (wrap64 ((bt1011.1.length : Int) - 1)) ≤ (bt1011.1.length : Int) then (if (wrap64 ((bt1011.1.length : Int) - 1)) ≤ (bt1011.2.length : Int) then ((spec_l1Make.f k (bt1011.1.take ((wrap64 ((bt1011.1.length : Int) - 1)) : Int).toNat) (bt1011.2.take ((wrap64 ((bt1011.1.length : Int) - 1)) : Int).toNat)).bind fun t1028 => (some (t1028,true))) else (none)) else (none)) else ((spec_l1Make.f k (bt1011.1.set ((wrap64 ((bt1011.1.length : Int) - 1)) : Int).toNat (wrap64 ((rd bt1011.1 (wrap64 ((bt1011.1.length : Int) - 1))) - 1))) bt1011.2).bind fun t1033 => (some (t1033,true)))) else (none)) else (none))) else (some ((([] : List Int)),false))) = some (r1,r2) := H
 have A2 := Aside0.mk A20
 clear A20
 by_cases c3 : t1007 = 1
 ·rw [if_pos c3] at H
  have c3b0 : (t1007 == 1) = true := beq_iff_eq.mpr c3
  have c3b1 : (t1007 != 1) = false := bne_eq_false_iff_eq.mpr c3
  clear c3
  replace H := Option.bind_eq_some_iff.mp H
  obtain ⟨⟨t1011,t1014⟩,A40,H⟩ := H
  replace H : (if 0 ≤ (wrap64 ((t1011.length : Int) - 1)) then (if (wrap64 ((t1011.length : Int) - 1)) < (t1011.length : Int) then (if (rd t1011 (wrap64 ((t1011.length : Int) - 1))) = 1 then (if (wrap64 ((t1011.length : Int) - 1)) ≤ (t1011.length : Int) then (if (wrap64 ((t1011.length : Int) - 1)) ≤ (t1014.length : Int) then ((spec_l1Make.f k (t1011.take ((wrap64 ((t1011.length : Int) - 1)) : Int).toNat) (t1014.take ((wrap64 ((t1011.length : Int) - 1)) : Int).toNat)).bind fun t1028 => (some (t1028,true))) else (none)) else (none)) else ((spec_l1Make.f k (t1011.set ((wrap64 ((t1011.length : Int) - 1)) : Int).toNat (wrap64 ((rd t1011 (wrap64 ((t1011.length : Int) - 1))) - 1))) t1014).bind fun t1033 => (some (t1033,true)))) else (none)) else (none)) = some (r1,r2) := H
  have A4 := Aside0.mk A40
  clear A40
  obtain ⟨ji5,hji5⟩ : ∃ j_ : Int,(wrap64 ((t1011.length : Int) - 1)) = j_ := ⟨_,rfl⟩
  replace H : (if 0 ≤ (ji5) then (if (ji5) < (t1011.length : Int) then (if (rd t1011 (ji5)) = 1 then (if (ji5) ≤ (t1011.length : Int) then (if (ji5) ≤ (t1014.length : Int) then ((spec_l1Make.f k (t1011.take ((ji5) : Int).toNat) (t1014.take ((ji5) : Int).toNat)).bind fun t1028 => (some (t1028,true))) else (none)) else (none)) else ((spec_l1Make.f k (t1011.set ((ji5) : Int).toNat (wrap64 ((rd t1011 (ji5)) - 1))) t1014).bind fun t1033 => (some (t1033,true)))) else (none)) else (none)) = some (r1,r2) := by first|(rw [hji5] at H;exact H)|(simp only [hji5] at H ⊢;exact H)
  (try rw [hji5] at A2)
  (try rw [hji5] at A4)
  have hji5w : (IntKind.i64.wrap ((t1011.length : Int) - 1)) = ji5 := (i64_w _).trans hji5
  by_cases c6 : 0 ≤ (ji5)
  ·rw [if_pos c6] at H
   have c6b0 : decide (0 ≤ (ji5)) = true := decide_eq_true c6
   clear c6
   by_cases c7 : (ji5) < (t1011.length : Int)
   ·rw [if_pos c7] at H
    have c7b0 : decide ((ji5) < (t1011.length : Int)) = true := decide_eq_true c7
    clear c7
    by_cases c8 : (rd t1011 (ji5)) = 1
    ·rw [if_pos c8] at H
     have c8b0 : ((rd t1011 (ji5)) == 1) = true := beq_iff_eq.mpr c8
     have c8b1 : ((rd t1011 (ji5)) != 1) = false := bne_eq_false_iff_eq.mpr c8
     clear c8
     have c9b0 := eq_true (dz : 0 ≤ (ji5))
     by_cases c10 : (ji5) ≤ (t1011.length : Int)
     ·rw [if_pos c10] at H
      have c10b0 := eq_true c10
      have c10b1 : decide ((ji5) ≤ (t1011.length : Int)) = true := decide_eq_true c10
      clear c10
      obtain ⟨y1018,hy1018⟩ : ∃ y_ : List Int,y_ = (t1011.take ((ji5) : Int).toNat) := ⟨_,rfl⟩
      replace H : (if (ji5) ≤ (t1014.length : Int) then ((spec_l1Make.f k y1018 (t1014.take ((ji5) : Int).toNat)).bind fun t1028 => (some (t1028,true))) else (none)) = some (r1,r2) := by first|(rw [hy1018];with_reducible exact H)|(have H2_ := (Option.bind_some _ _).symm.trans H;rw [hy1018];with_reducible exact H2_)|(have H2_ := (Option.bind_some _ _).symm.trans H;with_reducible exact H2_)|with_reducible exact H|(rw [hy1018];exact H)|exact H
      have Ny1018 := Aside0.mk hy1018
      clear hy1018
      have c11b0 := eq_true (dz : 0 ≤ (ji5))
      by_cases c12 : (ji5) ≤ (t1014.length : Int)
      ·rw [if_pos c12] at H
       have c12b0 := eq_true c12
       have c12b1 : decide ((ji5) ≤ (t1014.length : Int)) = true := decide_eq_true c12
       clear c12
       obtain ⟨y1023,hy1023⟩ : ∃ y_ : List (List Int),y_ = (t1014.take ((ji5) : Int).toNat) := ⟨_,rfl⟩
       replace H : ((spec_l1Make.f k y1018 y1023).bind fun t1028 => (some (t1028,true))) = some (r1,r2) := by first|(rw [hy1023];with_reducible exact H)|(have H2_ := (Option.bind_some _ _).symm.trans H;rw [hy1023];with_reducible exact H2_)|(have H2_ := (Option.bind_some _ _).symm.trans H;with_reducible exact H2_)|with_reducible exact H|(rw [hy1023];exact H)|exact H
       have Ny1023 := Aside0.mk hy1023
       clear hy1023
       replace H := Option.bind_eq_some_iff.mp H
       obtain ⟨t1028,A130,H⟩ := H
       replace H : (some (t1028,true)) = some (r1,r2) := H
       have A13 := Aside0.mk A130
       clear A130
       simp only [Option.some.injEq,Prod.mk.injEq] at H
       obtain ⟨rfl,rfl⟩ := H
       go_enter Try.func49,Try.ntmps49
       try go_wp2_with (first|((with_reducible refine gate_callee (f := 46) rfl ?_);refine goesL_ (some 8) rfl rfl Try.func46 (by kernel_rfl) rfl #[.slice A0 l0.length c0] rfl az ?_;(with_reducible refine (spec_OrdKind.calls k _ _ l0 t1007 _ ?side1 ?side2 A2.out).mono ?_);(case side1 => exact Kd.Cz HR0.out);(case side2 => exact HC0.out);rintro e w14 ⟨rfl,hb⟩;refine ⟨_,rfl,?_⟩;have n0_ := Aside0.mk (below_step bz hb);clear HB;have HB := n0_;clear n0_;(try clear hb);(try clear hb2);(try clear hk);(try clear hi))|((with_reducible refine gate_callee (f := 65) rfl ?_);refine goesL_ (some 13) rfl rfl Try.func65 (by kernel_rfl) rfl #[.slice A0 l0.length c0] rfl az ?_;(with_reducible refine (spec_l1Terms.calls k (fun k_ => k_ < w.heap.size) _ _ l0 t1011 t1014 _ ?side1 A4.out).mono ?_);(case side1 => exact Kd.V_mk HC0.out (Kd.F_below (Kd.C_F (Kd.heap_int .i64) HR0.out) bz));rintro e w15 ⟨v1012,v1015,rfl,ho0,ho1,hb⟩;refine ⟨_,rfl,?_⟩;have n0_ := Aside0.mk (Kd.R_lower (Kd.R_mono (ok' := fun k_ => True) ho0 (fun _ hk_ => trivial)) (below_size bz));have n1_ := Aside0.mk (Kd.N_lower (Kd.N_mono (ok' := fun k_ => some k_ ≠ (v1012 : Value).ownBlock) ho1 (fun k_ hk_ => hk_.2)) (below_size bz));have n2_ := Aside0.mk (below_step bz hb);clear HB;have HO1013 := n0_;have HO1016 := n1_;have HB := n2_;clear n0_ n1_ n2_;(try clear hb);(try clear hb2);(try clear hk);(try clear hi);(try clear ho0);(try clear ho1);obtain ⟨Ao16,co16,eo16⟩ := Kd.R_slice HO1013.out;subst eo16;have p1017 : 0 ≤ ((ji5) : Int) := dz;have q1017 : (ji5) < (t1011.length : Int) := dz;obtain ⟨ad1017,e1017,hx1017_0⟩ := Kd.at_int (Kd.R_reads' HO1013.out).2.2 (ji5) p1017 q1017;cases e1017;replace p1017 := eq_true p1017;replace q1017 := eq_true q1017))
       have n0_ := Aside0.mk (Kd.R_drew HO1013.out)
       have n1_ := Aside0.mk (Kd.N_drew HO1016.out)
       have n2_ := Aside0.mk (below_drew1 HB.out)
       clear HO1013
       clear HO1016
       clear HB
       have HO1013 := n0_
       have HO1016 := n1_
       have HB := n2_
       clear n0_ n1_ n2_
       have q18 : ((ji5) : Int) ≤ ((t1011.length : Int) : Int) := dz
       obtain ⟨i018,hi018,_,hsz18,_⟩ := info_parts info3
       have hroom18 : t1011.length ≤ co16 := (Kd.R_reads' HO1013.out).2.1
       have hC18 : Kd.F (Kd.int .i64) _ _ (some ad1017) t1011.length t1011 := (Kd.V_at (base := w.heap.size) (Kd.R_V (Kd.R_apart' (HO1013.out) (Kd.N_typed HO1016.out) (by decide)))).2.2
       have hcut18 := cut_to (P := Try.prog) 24 3 .i64 Try.underlying24 hi018 (some ad1017) t1011.length co16 (ji5) (dz) q18 hroom18
       have hr18 := Kd.F_take (m := ((ji5) : Int).toNat) hC18 (by omega)
       have hy18 : y1018.length = ((ji5) : Int).toNat := (by rw [Ny1018.out,List.length_take];omega)
       rw [← Ny1018.out] at hr18
       rw [← hy18] at hcut18
       have HO1022 := Aside0.mk (show Kd.V (Kd.int .i64) 3 _ w.heap.size _ (.slice (some ad1017) y1018.length co16) y1018 from Kd.V_mk (by omega) hr18)
       have HC1022 := Aside0.mk (show y1018.length ≤ co16 from by omega)
       clear hr18 hC18 hroom18 hi018 hsz18
       have KY18 := Aside0.mk hy18
       clear hy18
       replace q18 := eq_true q18
       obtain ⟨Ao20,co20,eo20⟩ := Kd.N_slice HO1016.out
       (first|subst eo20|(injection eo20 with f1_ f2_ f3_;have f4_ := f1_.symm;have f5_ := f3_.symm;clear f1_ f2_ f3_;subst f4_;subst f5_))
       have q19 : ((ji5) : Int) ≤ ((t1014.length : Int) : Int) := dz
       obtain ⟨i019,hi019,_,hsz19,_⟩ := info_parts info24
       have hroom19 : t1014.length ≤ co20 := (Kd.N_reads' HO1016.out).2.1
       have hC19 : Kd.F (Kd.slice 3 (Kd.int .i64)) _ _ Ao20 t1014.length t1014 := (Kd.V_at (base := w.heap.size) (Kd.N_V HO1016.out)).2.2
       have hcut19 := cut_to (P := Try.prog) 59 24 .i64 Try.underlying59 hi019 Ao20 t1014.length co20 (ji5) (dz) q19 hroom19
       have hr19 := Kd.F_take (m := ((ji5) : Int).toNat) hC19 (by omega)
       have hy19 : y1023.length = ((ji5) : Int).toNat := (by rw [Ny1023.out,List.length_take];omega)
       rw [← Ny1023.out] at hr19
       rw [← hy19] at hcut19
       have HO1027 := Aside0.mk (show Kd.V (Kd.slice 3 (Kd.int .i64)) 24 _ w.heap.size _ (.slice Ao20 y1023.length co20) y1023 from Kd.V_mk (by omega) hr19)
       have HC1027 := Aside0.mk (show y1023.length ≤ co20 from by omega)
       clear hr19 hC19 hroom19 hi019 hsz19
       have KY19 := Aside0.mk hy19
       clear hy19
       replace q19 := eq_true q19
       refine start_ (n := 9) (S := fun w' => True) (ds := []) #[false,false,false,false,false,false,false,false,false] (by kernel_rfl) rfl rfl trivial (fun hHeld => ?_);refine with_tabW spec_OrdBefore.tab6 spec_OrdBefore.bits6 (fun HT_ HW_ => ?_)
       generalize w15.drew = w17 at HO1013 HO1016 HB HO1022 HO1027 hHeld ⊢
       refine pure_ (i := 0) (N := some 24) (v := ?_) (a' := ?_) #[true,false,false,false,false,false,false,false,false] rfl rfl (any_of HT_.out (by kernel_rfl)) (fun _ _ _ h => h) (Or.inl ⟨by rfl,?_⟩) ?_ ?_
       rotate_left
       ·intro w'
        go_simp
        with_reducible rfl
       rotate_left
       ·simp only [Act.put,List.setIfInBounds_toArray,List.set_cons_zero,List.set_cons_succ,i64_w,i32_w]
        rfl
       refine pure_ (i := 1) (N := some 25) (v := ?_) (a' := ?_) #[true,true,false,false,false,false,false,false,false] rfl rfl (any_of HT_.out (by kernel_rfl)) (fun _ _ _ h => h) (Or.inl ⟨by rfl,?_⟩) ?_ ?_
       rotate_left
       ·intro w'
        go_simp
        with_reducible rfl
       rotate_left
       ·simp only [Act.put,List.setIfInBounds_toArray,List.set_cons_zero,List.set_cons_succ,i64_w,i32_w]
        rfl
       refine pure_ (i := 2) (N := some 26) (v := ?_) (a' := ?_) #[true,true,true,false,false,false,false,false,false] rfl rfl (any_of HT_.out (by kernel_rfl)) (fun _ _ _ h => h) (Or.inl ⟨by rfl,?_⟩) ?_ ?_
       rotate_left
       ·intro w'
        go_simp
        with_reducible rfl
       rotate_left
       ·simp only [Act.put,List.setIfInBounds_toArray,List.set_cons_zero,List.set_cons_succ,i64_w,i32_w]
        rfl
       refine pure_ (i := 3) (N := some 27) (v := ?_) (a' := ?_) #[true,true,true,true,false,false,false,false,false] rfl rfl (any_of HT_.out (by kernel_rfl)) (fun _ _ _ h => h) (Or.inl ⟨by rfl,?_⟩) ?_ ?_
       rotate_left
       ·intro w'
        go_simp
        with_reducible rfl
       rotate_left
       ·simp only [Act.put,List.setIfInBounds_toArray,List.set_cons_zero,List.set_cons_succ,i64_w,i32_w]
        rfl
       refine pure_ (i := 4) (N := some 28) (v := ?_) (a' := ?_) #[true,true,true,true,true,false,false,false,false] rfl rfl (any_of HT_.out (by kernel_rfl)) (fun _ _ _ h => h) (Or.inl ⟨by rfl,?_⟩) ?_ ?_
       rotate_left
       ·intro w'
        go_simp
        with_reducible rfl
       rotate_left
       ·simp only [Act.put,List.setIfInBounds_toArray,List.set_cons_zero,List.set_cons_succ,i64_w,i32_w]
        rfl
       refine pure_ (i := 5) (N := some 29) (v := ?_) (a' := ?_) #[true,true,true,true,true,true,false,false,false] rfl rfl (any_of HT_.out (by kernel_rfl)) (fun _ _ _ h => h) (Or.inl ⟨by rfl,?_⟩) ?_ ?_
       rotate_left
       ·intro w'
        go_simp
        with_reducible rfl
       rotate_left
       ·simp only [Act.put,List.setIfInBounds_toArray,List.set_cons_zero,List.set_cons_succ,i64_w,i32_w]
        rfl
       refine one_ (i := 6) (N := some 30) #[true,true,true,true,true,true,true,false,false] rfl rfl (one_of HT_.out (by kernel_rfl)) (by decide) (fun K hK => ?_)
       refine goes_ Try.func76 (by kernel_rfl) rfl #[.slice (some ad1017) y1018.length co16,.slice Ao20 y1023.length co20] (by rfl) rfl rfl az ?_
       with_reducible refine (spec_l1Make.calls k _ _ y1018 _ _ y1023 t1028 _ ?side1 ?side2 ?side3 ?side4 A13.out).mono ?_
       (case side1 => exact Kd.Cz (Kd.V_reads' HO1022.out).2.2)
       (case side2 => exact (Kd.V_reads' HO1022.out).2.1)
       (case side3 => exact Kd.Cz (Kd.V_reads' HO1027.out).2.2)
       (case side4 => exact (Kd.V_reads' HO1027.out).2.1)
       rintro e w21 ⟨v1029,rfl,ho0,hb⟩
       refine ⟨_,rfl,?_⟩
       have n0_ := Aside0.mk (Kd.R_elder' (Kd.Rz HO1013.out) (Kd.R_base ho0) hb)
       have n1_ := Aside0.mk (Kd.N_elder' (Kd.Nz HO1016.out) (Kd.R_base ho0) hb)
       have n2_ := Aside0.mk (Kd.V_elder' (Kd.Vz HO1022.out) (Kd.R_base ho0) hb)
       have n3_ := Aside0.mk (Kd.V_elder' (Kd.Vz HO1027.out) (Kd.R_base ho0) hb)
       have n4_ := Aside0.mk (Kd.R_lower (Kd.R_new' ho0 (Kd.R_lt (Kd.Rz HO1013.out))) (below_size bz))
       have n5_ := Aside0.mk (below_step bz hb)
       clear HO1013
       clear HO1016
       clear HO1022
       clear HO1027
       clear HB
       have HO1013 := n0_
       have HO1016 := n1_
       have HO1022 := n2_
       have HO1027 := n3_
       have HO1030 := n4_
       have HB := n5_
       clear n0_ n1_ n2_ n3_ n4_ n5_
       (try clear hb)
       (try clear hb2)
       (try clear hk)
       (try clear hi)
       (try clear ho0)
       refine hK.out _ _ trivial (fun hHeld => ?_)
       clear hK K
       refine norm_ (a' := ?_) ?_ ?_
       rotate_left
       ·show Act.put _ (some 30) _ = _
        simp only [Act.put,List.setIfInBounds_toArray,List.set_cons_zero,List.set_cons_succ,i64_w,i32_w]
        rfl
       refine pure_ (i := 7) (N := some 2) (v := ?_) (a' := ?_) #[true,true,true,true,true,true,true,true,false] rfl rfl (any_of HT_.out (by kernel_rfl)) (fun _ _ _ h => h) (Or.inl ⟨by rfl,?_⟩) ?_ ?_
       rotate_left
       ·intro w'
        go_simp
        with_reducible rfl
       rotate_left
       ·simp only [Act.put,List.setIfInBounds_toArray,List.set_cons_zero,List.set_cons_succ,i64_w,i32_w]
        rfl
       refine pure_ (i := 8) (N := some 3) (v := ?_) (a' := ?_) #[true,true,true,true,true,true,true,true,true] rfl rfl (any_of HT_.out (by kernel_rfl)) (fun _ _ _ h => h) (Or.inl ⟨by rfl,?_⟩) ?_ ?_
       rotate_left
       ·intro w'
        go_simp
        with_reducible rfl
       rotate_left
       ·simp only [Act.put,List.setIfInBounds_toArray,List.set_cons_zero,List.set_cons_succ,i64_w,i32_w]
        rfl
       refine done_ (done_of HT_.out (by kernel_rfl)) ?_
       try go_wp2
       go_ret2
       exact ⟨_,by first|rfl|(simp [errW_none,errW_some] <;> rfl)|(simp only [← hji5];first|rfl|(simp [errW_none,errW_some] <;> rfl))|(simp [*,errW_none,errW_some] <;> rfl),by (with_reducible repeat (first|apply Kd.R_alloc|apply Kd.R_drewN|apply Kd.R_drew));exact Kd.R_mono HO1030.out (fun _ hk => trivial),bz⟩
      ·rw [if_neg c12] at H
       exact absurd H (by simp)
     ·rw [if_neg c10] at H
      exact absurd H (by simp)
    ·rw [if_neg c8] at H
     have c8b0 : ((rd t1011 (ji5)) == 1) = false := beq_eq_false_iff_ne.mpr c8
     have c8b1 : ((rd t1011 (ji5)) != 1) = true := bne_iff_ne.mpr c8
     obtain ⟨y1032,hy1032⟩ : ∃ y_ : List Int,y_ = (t1011.set ((ji5) : Int).toNat (wrap64 ((rd t1011 (ji5)) - 1))) := ⟨_,rfl⟩
     replace H : ((spec_l1Make.f k y1032 t1014).bind fun t1033 => (some (t1033,true))) = some (r1,r2) := by first|(rw [hy1032];with_reducible exact H)|(have H2_ := (Option.bind_some _ _).symm.trans H;rw [hy1032];with_reducible exact H2_)|(have H2_ := (Option.bind_some _ _).symm.trans H;with_reducible exact H2_)|with_reducible exact H|(rw [hy1032];exact H)|exact H
     have Ny1032 := Aside0.mk hy1032
     clear hy1032
     replace H := Option.bind_eq_some_iff.mp H
     obtain ⟨t1033,A230,H⟩ := H
     replace H : (some (t1033,true)) = some (r1,r2) := H
     have A23 := Aside0.mk A230
     clear A230
     simp only [Option.some.injEq,Prod.mk.injEq] at H
     obtain ⟨rfl,rfl⟩ := H
     go_enter Try.func49,Try.ntmps49
     go_wp2_with (first|((with_reducible refine gate_callee (f := 46) rfl ?_);refine goesL_ (some 8) rfl rfl Try.func46 (by kernel_rfl) rfl #[.slice A0 l0.length c0] rfl az ?_;(with_reducible refine (spec_OrdKind.calls k _ _ l0 t1007 _ ?side1 ?side2 A2.out).mono ?_);(case side1 => exact Kd.Cz HR0.out);(case side2 => exact HC0.out);rintro e w24 ⟨rfl,hb⟩;refine ⟨_,rfl,?_⟩;have n0_ := Aside0.mk (below_step bz hb);clear HB;have HB := n0_;clear n0_;(try clear hb);(try clear hb2);(try clear hk);(try clear hi))|((with_reducible refine gate_callee (f := 65) rfl ?_);refine goesL_ (some 13) rfl rfl Try.func65 (by kernel_rfl) rfl #[.slice A0 l0.length c0] rfl az ?_;(with_reducible refine (spec_l1Terms.calls k (fun k_ => k_ < w.heap.size) _ _ l0 t1011 t1014 _ ?side1 A4.out).mono ?_);(case side1 => exact Kd.V_mk HC0.out (Kd.F_below (Kd.C_F (Kd.heap_int .i64) HR0.out) bz));rintro e w25 ⟨v1012,v1015,rfl,ho0,ho1,hb⟩;refine ⟨_,rfl,?_⟩;have n0_ := Aside0.mk (Kd.R_lower (Kd.R_mono (ok' := fun k_ => True) ho0 (fun _ hk_ => trivial)) (below_size bz));have n1_ := Aside0.mk (Kd.N_lower (Kd.N_mono (ok' := fun k_ => some k_ ≠ (v1012 : Value).ownBlock) ho1 (fun k_ hk_ => hk_.2)) (below_size bz));have n2_ := Aside0.mk (below_step bz hb);clear HB;have HO1013 := n0_;have HO1016 := n1_;have HB := n2_;clear n0_ n1_ n2_;(try clear hb);(try clear hb2);(try clear hk);(try clear hi);(try clear ho0);(try clear ho1);obtain ⟨Ao26,co26,eo26⟩ := Kd.R_slice HO1013.out;subst eo26;have p1017 : 0 ≤ ((ji5) : Int) := dz;have q1017 : (ji5) < (t1011.length : Int) := dz;obtain ⟨ad1017,e1017,hx1017_0⟩ := Kd.at_int (Kd.R_reads' HO1013.out).2.2 (ji5) p1017 q1017;cases e1017;replace p1017 := eq_true p1017;replace q1017 := eq_true q1017;have p1031 : 0 ≤ ((ji5) : Int) := dz;have q1031 : (ji5) < (t1011.length : Int) := dz;obtain ⟨ad1031,e1031,hx1031_0⟩ := Kd.at_int (Kd.R_reads' HO1013.out).2.2 (ji5) p1031 q1031;obtain rfl : ad1017 = ad1031 := (by injection e1031);replace p1031 := eq_true p1031;replace q1031 := eq_true q1031;have p22 : 0 ≤ ((ji5) : Int) := dz;have q22 : ((ji5) : Int) < ((t1011.length : Int) : Int) := dz;obtain ⟨go22,co22,eo22,gb22,gl22,cl22,HG22⟩ := Kd.R_form HO1013.out (by omega);(first|cases eo22|(injection eo22 with ea_ en_ ec_;(first|subst ea_|(injection ea_ with ea_;subst ea_));subst ec_;clear en_));have GB22 := Aside0.mk gb22;have GG22 := Aside0.mk HG22;clear gb22 gl22 HG22;(first|simp only [add_plain] at hx1017_0|skip);(first|simp only [add_plain] at hx1031_0|skip);obtain ⟨hx22_0,hf22_0⟩ := Kd.R_celln 0 HO1013.out ((ji5) : Int) p22 q22;replace p22 := eq_true p22;replace q22 := eq_true q22;obtain ⟨hy27_,hz27_⟩ := Kd.R_celln 0 HO1013.out ((ji5) : Int) (dz) (dz);have HP27 := Kd.R_putg HO1013.out ((ji5) : Int) (wrap64 ((rd t1011 (ji5)) - 1)))|((with_reducible refine gate_store (t := 3) (p := 38) rfl ?_);refine store_event (t := 3) (p := 38) (v := ?vo_w28) (w1 := (w25.setCell ⟨go22,((ji5) : Int).toNat,none⟩ (.int .i64 (wrap64 ((rd t1011 (ji5)) - 1))))) ?hg ?ho ?hn ?hr ?_;(case ho => rfl);(case hg => rfl);(case hn => rfl);(case hr => first|(go_simp;done)|(go_simp;rfl));intro w28 hw;have hg : w25.grownBy w28 (some go22) := (by rw [hw];exact HP27.2);have hp_ : Kd.R (Kd.int .i64) 3 w28 w.heap.size (fun _ => True) (.slice (some ⟨go22,0,none⟩) t1011.length co26) y1032 := (by rw [hw,Ny1032.out];exact HP27.1);clear HP27;have n0_ := Aside0.mk (hp_);have n1_ := Aside0.mk (Kd.N_afterv (v := (.slice (some ⟨go22,0,none⟩) t1011.length co26)) (v1 := (.slice (some ⟨go22,0,none⟩) t1011.length co26)) (ok := (fun _ => True)) (by (with_reducible repeat (first|apply Kd.N_alloc|apply Kd.N_drewN|apply Kd.N_drew));exact Kd.N_mono HO1016.out (fun _ hk => ⟨trivial,hk⟩)) hg (.inl rfl));have n2_ := Aside0.mk ((by rw [hw];exact below_set (HB.out) GB22.out : Below w.heap.size w w28));clear HO1013;clear HO1016;clear HB;have HO1013 := n0_;have HO1016 := n1_;have HB := n2_;clear n0_ n1_ n2_;clear hg hw hp_;obtain ⟨Ao29,co29,eo29⟩ := Kd.N_slice HO1016.out;subst eo29)|((with_reducible refine gate_callee (f := 76) rfl ?_);refine goesL_ (some 41) rfl rfl Try.func76 (by kernel_rfl) rfl #[.slice (some ⟨go22,0,none⟩) y1032.length co26,.slice Ao29 t1014.length co29] rfl (by (try simp only [List.map_toArray,List.map_cons,List.map_nil]);first|done|(rw [show y1032.length = t1011.length from (Kd.R_reads' HO1013.out).1.symm] <;> rfl)|rfl|(simp only [List.length_drop,List.length_take];rfl)) ?_;(with_reducible refine (spec_l1Make.calls k _ _ y1032 _ _ t1014 t1033 _ ?side1 ?side2 ?side3 ?side4 A23.out).mono ?_);(case side1 => exact Kd.Cz (Kd.R_reads' HO1013.out).2.2);(case side2 => rw [show y1032.length = t1011.length from (Kd.R_reads' HO1013.out).1.symm];exact (Kd.R_reads' HO1013.out).2.1);(case side3 => exact Kd.Cz (Kd.N_reads' HO1016.out).2.2);(case side4 => exact (Kd.N_reads' HO1016.out).2.1);rintro e w30 ⟨v1034,rfl,ho0,hb⟩;refine ⟨_,rfl,?_⟩;have n0_ := Aside0.mk (Kd.R_elder' (Kd.Rz HO1013.out) (Kd.R_base ho0) hb);have n1_ := Aside0.mk (Kd.N_elder' (Kd.Nz HO1016.out) (Kd.R_base ho0) hb);have n2_ := Aside0.mk (Kd.R_lower (Kd.R_new' ho0 (Kd.R_lt (Kd.Rz HO1013.out))) (below_size bz));have n3_ := Aside0.mk (below_step bz hb);clear HO1013;clear HO1016;clear HB;have HO1013 := n0_;have HO1016 := n1_;have HO1035 := n2_;have HB := n3_;clear n0_ n1_ n2_ n3_;(try clear hb);(try clear hb2);(try clear hk);(try clear hi);(try clear ho0)))
     go_ret2
     exact ⟨_,by first|rfl|(simp [errW_none,errW_some] <;> rfl)|(simp only [← hji5];first|rfl|(simp [errW_none,errW_some] <;> rfl))|(simp [*,errW_none,errW_some] <;> rfl),by (with_reducible repeat (first|apply Kd.R_alloc|apply Kd.R_drewN|apply Kd.R_drew));exact Kd.R_mono HO1035.out (fun _ hk => trivial),bz⟩
   ·rw [if_neg c7] at H
    exact absurd H (by simp)
  ·rw [if_neg c6] at H
   exact absurd H (by simp)
 ·rw [if_neg c3] at H
  have c3b0 : (t1007 == 1) = false := beq_eq_false_iff_ne.mpr c3
  have c3b1 : (t1007 != 1) = true := bne_iff_ne.mpr c3
  obtain ⟨y1008,hy1008⟩ : ∃ y_ : List Int,y_ = (([] : List Int)) := ⟨_,rfl⟩
  replace H : (some (y1008,false)) = some (r1,r2) := by first|(rw [hy1008];with_reducible exact H)|(have H2_ := (Option.bind_some _ _).symm.trans H;rw [hy1008];with_reducible exact H2_)|(have H2_ := (Option.bind_some _ _).symm.trans H;with_reducible exact H2_)|with_reducible exact H|(rw [hy1008];exact H)|exact H
  have Ny1008 := Aside0.mk hy1008
  clear hy1008
  simp only [Option.some.injEq,Prod.mk.injEq] at H
  obtain ⟨rfl,rfl⟩ := H
  go_enter Try.func49,Try.ntmps49
  go_wp2_with (first|((with_reducible refine gate_callee (f := 46) rfl ?_);refine goesL_ (some 8) rfl rfl Try.func46 (by kernel_rfl) rfl #[.slice A0 l0.length c0] rfl az ?_;(with_reducible refine (spec_OrdKind.calls k _ _ l0 t1007 _ ?side1 ?side2 A2.out).mono ?_);(case side1 => exact Kd.Cz HR0.out);(case side2 => exact HC0.out);rintro e w31 ⟨rfl,hb⟩;refine ⟨_,rfl,?_⟩;have n0_ := Aside0.mk (below_step bz hb);clear HB;have HB := n0_;clear n0_;(try clear hb);(try clear hb2);(try clear hk);(try clear hi))|((with_reducible refine gate_dst (N := 10) rfl ?_);refine Kd.R_lit (Kd.int .i64) _ 3 ?hg (N := 10) ?hd (xs := ([] : List Int)) (inner := []) (ok := fun _ => True) (okp := fun _ => True) ?hr ?hp (fun _ hk => hk) trivial (Below.refl _ _) (Nat.le_refl _) (by simp) ?_;(case hd => rfl);(case hg => rfl);(case hr => first|(go_simp;done)|(go_simp;rfl));(case hp => exact (Reps.none _ _));intro v1009 w32 ho33 hb hg_ hnew_;clear hg_ hnew_;(first|rw [← Ny1008.out] at ho33|(simp only [Int.reduceToNat] at ho33;rw [← Ny1008.out] at ho33));have n0_ := Aside0.mk (Kd.R_lower ho33 (below_size bz));have n1_ := Aside0.mk (below_step bz hb);clear HB;have HO1010 := n0_;have HB := n1_;clear n0_ n1_;clear hb ho33))
  go_ret2
  exact ⟨_,by first|rfl|(simp [errW_none,errW_some] <;> rfl)|(simp [*,errW_none,errW_some] <;> rfl),by (with_reducible repeat (first|apply Kd.R_alloc|apply Kd.R_drewN|apply Kd.R_drew));exact HO1010.out,bz⟩

end Go.Proofs.Ytninfokihgbgpaa.P
