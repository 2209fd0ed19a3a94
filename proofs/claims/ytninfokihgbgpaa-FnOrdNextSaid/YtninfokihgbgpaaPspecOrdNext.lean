/- The walk of one Go function that the law reaches: it comes to what the Lean function of its name tells. -/
import Derived.Test.YtninfokihgbgpaaP0
import Derived.Test.YtninfokihgbgpaaPspecOrdKind
import Derived.Test.YtninfokihgbgpaaPspecOrdValid
import Derived.Test.YtninfokihgbgpaaPspecl1Make
import Derived.Test.YtninfokihgbgpaaPspecl1Terms
namespace Go.Proofs.Ytninfokihgbgpaa.P
open Go.RowKit Go.Proofs.YtninfokihgbgpaaW.PrintWords Go.Proofs.YtninfokihgbgpaaW.PrintLast Go.Proofs.YtninfokihgbgpaaW.PrintMore
attribute [local go_sem] max2_int min2_int max_two min_two max_three min_three max_four min_four   
set_option linter.unusedVariables false
set_option linter.unusedSimpArgs false

/-! ### spec_OrdNext: function 51 -/
def spec_OrdNext.j0 : Nat → List Int → List (List Int) → Option (List Int × Bool)
 | 0,_,_ => none
 | k + 1,x4,x5 => (spec_l1Make.f k x4 x5).bind fun t635 => ((spec_OrdValid.f k t635).bind fun t638 => (if t638 = true then (some (t635,true)) else (some ((([] : List Int)),false))))
def spec_OrdNext.f (k : Nat) (l0 : List Int) : Option (List Int × Bool) := (spec_OrdValid.f k l0).bind fun t613 => (if t613 = true then ((spec_l1Terms.f k l0).bind fun bt617 => ((spec_OrdKind.f k l0).bind fun t623 => (if t623 = 1 then (if 0 ≤ (wrap64 ((bt617.1.length : Int) - 1)) then (if (wrap64 ((bt617.1.length : Int) - 1)) < (bt617.1.length : Int) then (spec_OrdNext.j0 k (bt617.1.set ((wrap64 ((bt617.1.length : Int) - 1)) : Int).toNat (wrap64 ((rd bt617.1 (wrap64 ((bt617.1.length : Int) - 1))) + 1))) bt617.2) else (none)) else (none)) else (if bt617.1.length < 17592186044416 then (if bt617.2.length < 5864062014805 then (spec_OrdNext.j0 k (bt617.1 ++ [1]) (bt617.2 ++ [(([0] : List Int))])) else (none)) else (none))))) else (some ((([] : List Int)),false)))
theorem spec_OrdNext.mono_l : ∀ k,(∀ y0 y1,LeO (spec_OrdNext.j0 k y0 y1) (spec_OrdNext.j0 (k + 1) y0 y1))
 | 0 => fun _ _ r h => by simp [spec_OrdNext.j0] at h
 | k + 1 => by
  have ih0 := spec_OrdNext.mono_l k
  ·intro y0 y1
   unfold spec_OrdNext.j0
   repeat' first|(with_reducible first|exact ih0 _ _|exact spec_OrdValid.mono _ _|exact spec_l1Make.mono _ _ _|exact LeO.refl _|exact LeO.none _|refine LeO.ite ?_ ?_|refine LeO.bind ?_ (fun _ => ?_))|exact ih0 _ _|exact spec_OrdValid.mono _ _|exact spec_l1Make.mono _ _ _|exact LeO.none _|refine LeO.ite ?_ ?_|refine LeO.bind ?_ (fun _ => ?_)
theorem spec_OrdNext.mono : ∀ a0 k,LeO (spec_OrdNext.f k a0) (spec_OrdNext.f (k + 1) a0) := by
 intro a0 k
 have ih0 := spec_OrdNext.mono_l k
 unfold spec_OrdNext.f
 repeat' first|(with_reducible first|exact ih0 _ _|exact spec_OrdKind.mono _ _|exact spec_OrdValid.mono _ _|exact spec_l1Terms.mono _ _|exact LeO.refl _|exact LeO.none _|refine LeO.ite ?_ ?_|refine LeO.bind ?_ (fun _ => ?_))|exact ih0 _ _|exact spec_OrdKind.mono _ _|exact spec_OrdValid.mono _ _|exact spec_l1Terms.mono _ _|exact LeO.none _|refine LeO.ite ?_ ?_|refine LeO.bind ?_ (fun _ => ?_)
set_option maxHeartbeats 8000000 in
set_option maxRecDepth 100000 in
theorem spec_OrdNext.calls (k : Nat) (A0 : Option Addr) (c0 : Nat) (l0 : List Int) (r1 : List Int) (r2 : Bool) (w : World) (hr0 : Kd.C (Kd.int .i64) w A0 l0.length l0) (hc0 : l0.length ≤ c0) (h : spec_OrdNext.f k l0 = some (r1,r2)) :
  Calls Try.prog 51 #[.slice A0 l0.length c0] w fun e w' => ∃ v0_ : Value,e = .returned (.tuple #[v0_,.bool r2]) ∧ Kd.R (Kd.int .i64) 3 w' w.heap.size (fun _ => True) v0_ r1 ∧ Below w.heap.size w w' := by
 have HR0 := Aside0.mk hr0
 have HC0 := Aside0.mk hc0
 clear hr0 hc0
 have HB := Aside0.mk (Below.refl w.heap.size w)
 have H : ((spec_OrdValid.f k l0).bind fun t613 => (if t613 = true then ((spec_l1Terms.f k l0).bind fun bt617 => ((spec_OrdKind.f k l0).bind fun t623 => (if t623 = 1 then (if 0 ≤ (wrap64 ((bt617.1.length : Int) - 1)) then (if (wrap64 ((bt617.1.length : Int) - 1)) < (bt617.1.length : Int) then (spec_OrdNext.j0 k (bt617.1.set ((wrap64 ((bt617.1.length : Int) - 1)) : Int).toNat (wrap64 ((rd bt617.1 (wrap64 ((bt617.1.length : Int) - 1))) + 1))) bt617.2) else (none)) else (none)) else (if bt617.1.length < 17592186044416 then (if bt617.2.length < 5864062014805 then (spec_OrdNext.j0 k (bt617.1 ++ [1]) (bt617.2 ++ [(([0] : List Int))])) else (none)) else (none))))) else (some ((([] : List Int)),false)))) = some (r1,r2) := h
 clear h
 replace H := Option.bind_eq_some_iff.mp H
 obtain ⟨t613,A20,H⟩ := H
 replace H : (if t613 = true then ((spec_l1Terms.f k l0).bind fun bt617 => ((spec_OrdKind.f k l0).bind fun t623 => (if t623 = 1 then (if 0 ≤ (wrap64 ((bt617.1.length : Int) - 1)) then (if (wrap64 ((bt617.1.length : Int) - 1)) < (bt617.1.length : Int) then (spec_OrdNext.j0 k (bt617.1.set ((wrap64 ((bt617.1.length : Int) - 1)) : Int).toNat (wrap64 ((rd bt617.1 (wrap64 ((bt617.1.length : Int) - 1))) + 1))) bt617.2) else (none)) else (none)) else (if bt617.1.length < 17592186044416 then (if bt617.2.length < 5864062014805 then (spec_OrdNext.j0 k (bt617.1 ++ [1]) (bt617.2 ++ [(([0] : List Int))])) else (none)) else (none))))) else (some ((([] : List Int)),false))) = some (r1,r2) := H
 have A2 := Aside0.mk A20
 clear A20
 by_cases c3 : t613 = true
 ·subst c3
  have H1 : ((spec_l1Terms.f k l0).bind fun bt617 => ((spec_OrdKind.f k l0).bind fun t623 => (if t623 = 1 then (if 0 ≤ (wrap64 ((bt617.1.length : Int) - 1)) then (if (wrap64 ((bt617.1.length : Int) - 1)) < (bt617.1.length : Int) then (spec_OrdNext.j0 k (bt617.1.set ((wrap64 ((bt617.1.length : Int) - 1)) : Int).toNat (wrap64 ((rd bt617.1 (wrap64 ((bt617.1.length : Int) - 1))) + 1))) bt617.2) else (none)) else (none)) else (if bt617.1.length < 17592186044416 then (if bt617.2.length < 5864062014805 then (spec_OrdNext.j0 k (bt617.1 ++ [1]) (bt617.2 ++ [(([0] : List Int))])) else (none)) else (none))))) = some (r1,r2) := by rw [if_pos rfl] at H;exact H
  clear H
  have H := H1
  clear H1
  replace H := Option.bind_eq_some_iff.mp H
  obtain ⟨⟨t617,t620⟩,A40,H⟩ := H
  replace H : ((spec_OrdKind.f k l0).bind fun t623 => (if t623 = 1 then (if 0 ≤ (wrap64 ((t617.length : Int) - 1)) then (if (wrap64 ((t617.length : Int) - 1)) < (t617.length : Int) then (spec_OrdNext.j0 k (t617.set ((wrap64 ((t617.length : Int) - 1)) : Int).toNat (wrap64 ((rd t617 (wrap64 ((t617.length : Int) - 1))) + 1))) t620) else (none)) else (none)) else (if t617.length < 17592186044416 then (if t620.length < 5864062014805 then (spec_OrdNext.j0 k (t617 ++ [1]) (t620 ++ [(([0] : List Int))])) else (none)) else (none)))) = some (r1,r2) := H
  have A4 := Aside0.mk A40
  clear A40
  replace H := Option.bind_eq_some_iff.mp H
  obtain ⟨t623,A50,H⟩ := H
  replace H : (if t623 = 1 then (if 0 ≤ (wrap64 ((t617.length : Int) - 1)) then (if (wrap64 ((t617.length : Int) - 1)) < (t617.length : Int) then (spec_OrdNext.j0 k (t617.set ((wrap64 ((t617.length : Int) - 1)) : Int).toNat (wrap64 ((rd t617 (wrap64 ((t617.length : Int) - 1))) + 1))) t620) else (none)) else (none)) else (if t617.length < 17592186044416 then (if t620.length < 5864062014805 then (spec_OrdNext.j0 k (t617 ++ [1]) (t620 ++ [(([0] : List Int))])) else (none)) else (none))) = some (r1,r2) := H
  have A5 := Aside0.mk A50
  clear A50
  have HC6 := Aside0.mk H
  clear H
  go_enter Try.func51,Try.ntmps51
  go_upto_if 18 with (first|((with_reducible refine gate_callee (f := 24) rfl ?_);refine goesL_ (some 8) rfl rfl Try.func24 (by kernel_rfl) rfl #[.slice A0 l0.length c0] rfl az ?_;(with_reducible refine (spec_OrdValid.calls k _ _ l0 true _ ?side1 ?side2 A2.out).mono ?_);(case side1 => exact Kd.Cz HR0.out);(case side2 => exact HC0.out);rintro e w7 ⟨rfl,hb⟩;refine ⟨_,rfl,?_⟩;have n0_ := Aside0.mk (below_step bz hb);clear HB;have HB := n0_;clear n0_;(try clear hb);(try clear hb2);(try clear hk);(try clear hi))|((with_reducible refine gate_callee (f := 65) rfl ?_);refine goesL_ (some 13) rfl rfl Try.func65 (by kernel_rfl) rfl #[.slice A0 l0.length c0] rfl az ?_;(with_reducible refine (spec_l1Terms.calls k (fun k_ => k_ < w.heap.size) _ _ l0 t617 t620 _ ?side1 A4.out).mono ?_);(case side1 => exact Kd.V_mk HC0.out (Kd.F_below (Kd.C_F (Kd.heap_int .i64) HR0.out) bz));rintro e w8 ⟨v618,v621,rfl,ho0,ho1,hb⟩;refine ⟨_,rfl,?_⟩;have n0_ := Aside0.mk (Kd.R_lower (Kd.R_mono (ok' := fun k_ => True) ho0 (fun _ hk_ => trivial)) (below_size bz));have n1_ := Aside0.mk (Kd.N_lower (Kd.N_mono (ok' := fun k_ => some k_ ≠ (v618 : Value).ownBlock) ho1 (fun k_ hk_ => hk_.2)) (below_size bz));have n2_ := Aside0.mk (below_step bz hb);clear HB;have HO619 := n0_;have HO622 := n1_;have HB := n2_;clear n0_ n1_ n2_;(try clear hb);(try clear hb2);(try clear hk);(try clear hi);(try clear ho0);(try clear ho1))|((with_reducible refine gate_callee (f := 46) rfl ?_);refine goesL_ (some 17) rfl rfl Try.func46 (by kernel_rfl) rfl #[.slice A0 l0.length c0] rfl az ?_;(with_reducible refine (spec_OrdKind.calls k _ _ l0 t623 _ ?side1 ?side2 A5.out).mono ?_);(case side1 => exact Kd.Cz (Kd.C_below HR0.out HB.out));(case side2 => exact HC0.out);rintro e w9 ⟨rfl,hb⟩;refine ⟨_,rfl,?_⟩;have n0_ := Aside0.mk (Kd.R_below (Kd.Rz HO619.out) hb);have n1_ := Aside0.mk (Kd.N_below (Kd.Nz HO622.out) hb);have n2_ := Aside0.mk (below_step bz hb);clear HO619;clear HO622;clear HB;have HO619 := n0_;have HO622 := n1_;have HB := n2_;clear n0_ n1_ n2_;(try clear hb);(try clear hb2);(try clear hk);(try clear hi)))
  (try simp only [Act.put,List.setIfInBounds_toArray,List.set_cons_zero,List.set_cons_succ])
  go_cut [4,5] (fun v4 v5 wc => ∃ (kq : Nat) (x4_5 : List Int) (x5_5 : List (List Int)),Aside0 (spec_OrdNext.j0 kq x4_5 x5_5 = some (r1,r2)) ∧ Aside0 (kq ≤ k) ∧ Aside0 (Kd.R (Kd.int .i64) 3 wc w.heap.size (fun _ => True) v4 x4_5) ∧ Aside0 (Kd.N (Kd.slice 3 (Kd.int .i64)) 24 wc w.heap.size (fun k_ => some k_ ≠ (v4 : Value).ownBlock) v5 x5_5) ∧ Aside0 (Below w.heap.size w wc))
  case first =>
   have H := HC6.out
   clear HC6
   by_cases c10 : t623 = 1
   ·rw [if_pos c10] at H
    have c10b0 : (t623 == 1) = true := beq_iff_eq.mpr c10
    have c10b1 : (t623 != 1) = false := bne_eq_false_iff_eq.mpr c10
    clear c10
    (first|rw [c10b0]|(simp only [i64_w,i32_w];rw [c10b0])|skip)
    obtain ⟨ji11,hji11⟩ : ∃ j_ : Int,(wrap64 ((t617.length : Int) - 1)) = j_ := ⟨_,rfl⟩
    replace H : (if 0 ≤ (ji11) then (if (ji11) < (t617.length : Int) then (spec_OrdNext.j0 k (t617.set ((ji11) : Int).toNat (wrap64 ((rd t617 (ji11)) + 1))) t620) else (none)) else (none)) = some (r1,r2) := by first|(rw [hji11] at H;exact H)|(simp only [hji11] at H ⊢;exact H)
    have hji11w : (IntKind.i64.wrap ((t617.length : Int) - 1)) = ji11 := (i64_w _).trans hji11
    by_cases c12 : 0 ≤ (ji11)
    ·rw [if_pos c12] at H
     have c12b0 : decide (0 ≤ (ji11)) = true := decide_eq_true c12
     clear c12
     by_cases c13 : (ji11) < (t617.length : Int)
     ·rw [if_pos c13] at H
      have c13b0 : decide ((ji11) < (t617.length : Int)) = true := decide_eq_true c13
      clear c13
      obtain ⟨y625,hy625⟩ : ∃ y_ : List Int,y_ = (t617.set ((ji11) : Int).toNat (wrap64 ((rd t617 (ji11)) + 1))) := ⟨_,rfl⟩
      replace H : (spec_OrdNext.j0 k y625 t620) = some (r1,r2) := by first|(rw [hy625];with_reducible exact H)|(have H2_ := (Option.bind_some _ _).symm.trans H;rw [hy625];with_reducible exact H2_)|(have H2_ := (Option.bind_some _ _).symm.trans H;with_reducible exact H2_)|with_reducible exact H|(rw [hy625];exact H)|exact H
      have Ny625 := Aside0.mk hy625
      clear hy625
      have H' := Aside0.mk H
      clear H
      obtain ⟨Ao15,co15,eo15⟩ := Kd.R_slice HO619.out
      subst eo15
      have p624 : 0 ≤ ((ji11) : Int) := dz
      have q624 : (ji11) < (t617.length : Int) := dz
      obtain ⟨ad624,e624,hx624_0⟩ := Kd.at_int (Kd.R_reads' HO619.out).2.2 (ji11) p624 q624
      cases e624
      replace p624 := eq_true p624
      replace q624 := eq_true q624
      have p14 : 0 ≤ ((ji11) : Int) := dz
      have q14 : ((ji11) : Int) < ((t617.length : Int) : Int) := dz
      obtain ⟨go14,co14,eo14,gb14,gl14,cl14,HG14⟩ := Kd.R_form HO619.out (by omega)
      (first|cases eo14|(injection eo14 with ea_ en_ ec_;(first|subst ea_|(injection ea_ with ea_;subst ea_));subst ec_;clear en_))
      have GB14 := Aside0.mk gb14
      have GG14 := Aside0.mk HG14
      clear gb14 gl14 HG14
      (first|simp only [add_plain] at hx624_0|skip)
      obtain ⟨hx14_0,hf14_0⟩ := Kd.R_celln 0 HO619.out ((ji11) : Int) p14 q14
      replace p14 := eq_true p14
      replace q14 := eq_true q14
      have HP16 := Kd.R_putg HO619.out ((ji11) : Int) (wrap64 ((rd t617 (ji11)) + 1))
      go_wp2_with (first|((with_reducible refine gate_store (t := 3) (p := 30) rfl ?_);refine store_event (t := 3) (p := 30) (v := ?vo_w17) (w1 := (w9.setCell ⟨go14,((ji11) : Int).toNat,none⟩ (.int .i64 (wrap64 ((rd t617 (ji11)) + 1))))) ?hg ?ho ?hn ?hr ?_;(case ho => rfl);(case hg => rfl);(case hn => rfl);(case hr => first|(go_simp;done)|(go_simp;rfl));intro w17 hw;have hg : w9.grownBy w17 (some go14) := (by rw [hw];exact HP16.2);have hp_ : Kd.R (Kd.int .i64) 3 w17 w.heap.size (fun _ => True) (.slice (some ⟨go14,0,none⟩) t617.length co15) y625 := (by rw [hw,Ny625.out];exact HP16.1);clear HP16;have n0_ := Aside0.mk (hp_);have n1_ := Aside0.mk (Kd.N_afterv (v := (.slice (some ⟨go14,0,none⟩) t617.length co15)) (v1 := (.slice (some ⟨go14,0,none⟩) t617.length co15)) (ok := (fun _ => True)) (by (with_reducible repeat (first|apply Kd.N_alloc|apply Kd.N_drewN|apply Kd.N_drew));exact Kd.N_mono HO622.out (fun _ hk => ⟨trivial,hk⟩)) hg (.inl rfl));have n2_ := Aside0.mk ((by rw [hw];exact below_set (HB.out) GB14.out : Below w.heap.size w w17));clear HO619;clear HO622;clear HB;have HO619 := n0_;have HO622 := n1_;have HB := n2_;clear n0_ n1_ n2_;clear hg hw hp_))
      go_meet
      case rel => exact ⟨_,(y625),(t620),H',⟨by first|omega|exact Nat.le_refl _⟩,⟨by (with_reducible repeat (first|apply Kd.R_alloc|apply Kd.R_drewN|apply Kd.R_drew));exact HO619.out⟩,⟨by (with_reducible repeat (first|apply Kd.N_alloc|apply Kd.N_drewN|apply Kd.N_drew));exact Kd.N_mono HO622.out (fun _ hk => hk.2)⟩,⟨bz⟩⟩
     ·rw [if_neg c13] at H
      exact absurd H (by simp)
    ·rw [if_neg c12] at H
     exact absurd H (by simp)
   ·rw [if_neg c10] at H
    have c10b0 : (t623 == 1) = false := beq_eq_false_iff_ne.mpr c10
    have c10b1 : (t623 != 1) = true := bne_iff_ne.mpr c10
    (first|rw [c10b0]|(simp only [i64_w,i32_w];rw [c10b0])|skip)
    by_cases c18 : t617.length < 17592186044416
    ·rw [if_pos c18] at H
     have LMc18 := Aside0.mk c18
     clear c18
     obtain ⟨y626,hy626⟩ : ∃ y_ : List Int,y_ = (t617 ++ [1]) := ⟨_,rfl⟩
     replace H : (if t620.length < 5864062014805 then (spec_OrdNext.j0 k y626 (t620 ++ [(([0] : List Int))])) else (none)) = some (r1,r2) := by first|(rw [hy626];with_reducible exact H)|(have H2_ := (Option.bind_some _ _).symm.trans H;rw [hy626];with_reducible exact H2_)|(have H2_ := (Option.bind_some _ _).symm.trans H;with_reducible exact H2_)|with_reducible exact H|(rw [hy626];exact H)|exact H
     have Ny626 := Aside0.mk hy626
     clear hy626
     obtain ⟨y629,hy629⟩ : ∃ y_ : List Int,y_ = (([0] : List Int)) := ⟨_,rfl⟩
     replace H : (if t620.length < 5864062014805 then (spec_OrdNext.j0 k y626 (t620 ++ [y629])) else (none)) = some (r1,r2) := by first|(rw [hy629];with_reducible exact H)|(have H2_ := (Option.bind_some _ _).symm.trans H;rw [hy629];with_reducible exact H2_)|(have H2_ := (Option.bind_some _ _).symm.trans H;with_reducible exact H2_)|with_reducible exact H|(rw [hy629];exact H)|exact H
     have Ny629 := Aside0.mk hy629
     clear hy629
     by_cases c19 : t620.length < 5864062014805
     ·rw [if_pos c19] at H
      have LMc19 := Aside0.mk c19
      clear c19
      obtain ⟨y632,hy632⟩ : ∃ y_ : List (List Int),y_ = (t620 ++ [y629]) := ⟨_,rfl⟩
      replace H : (spec_OrdNext.j0 k y626 y632) = some (r1,r2) := by first|(rw [hy632];with_reducible exact H)|(have H2_ := (Option.bind_some _ _).symm.trans H;rw [hy632];with_reducible exact H2_)|(have H2_ := (Option.bind_some _ _).symm.trans H;with_reducible exact H2_)|with_reducible exact H|(rw [hy632];exact H)|exact H
      have Ny632 := Aside0.mk hy632
      clear hy632
      have H' := Aside0.mk H
      clear H
      go_wp2_with (first|((with_reducible refine gate_builtin (b := .append) (xs := #[.tmp 31,.tmp 32]) rfl ?_);at_builtin;refine Kd.R_append (Kd.int .i64) (w0 := w) w.heap.size rfl (.tmp 31) (.tmp 32) 24 3 (.int .i64 0) 8 rfl Try.underlying24 info3 rfl (by decide) (by omega) v618 t617 1 [.int .i64 1] (fun _ => True) (fun _ => False) rfl rfl ?aP (fun _ hk => hk.elim) ?aF ?aO ?aB ?aS ?aL ?_;(case aP => exact rfl);(case aB => exact bz);(case aF => exact (fun _ _ => trivial));(case aO => exact (Kd.Rz HO619.out));(case aS => exact (below_size bz));(case aL => have := LMc18.out;omega);intro v627 w20 ho hb hg hat;rw [← Ny626.out] at ho;have n0_ := Aside0.mk (Kd.N_afterv (ok := (fun _ => True)) (by (with_reducible repeat (first|apply Kd.N_alloc|apply Kd.N_drewN|apply Kd.N_drew));exact Kd.N_mono HO622.out (fun _ hk => ⟨trivial,hk⟩)) hg hat);have n1_ := Aside0.mk (hb);have n2_ := Aside0.mk (ho);clear HO622;clear HB;clear HO619;have HO622 := n0_;have HB := n1_;have HO628 := n2_;clear n0_ n1_ n2_;clear ho hb hg hat)|((with_reducible refine gate_dst (N := 35) rfl ?_);refine Kd.R_lit (Kd.int .i64) _ 3 ?hg (N := 35) ?hd (xs := ([0] : List Int)) (inner := [.int .i64 0]) (ok := fun _ => True) (okp := fun _ => True) ?hr ?hp (fun _ hk => hk) trivial (Below.refl _ _) (Nat.le_refl _) (by simp) ?_;(case hd => rfl);(case hg => rfl);(case hr => first|(go_simp;done)|(go_simp;rfl));(case hp => exact (Reps.one (show Kd.M (Kd.int .i64) _ _ _ 0 [.int .i64 0] from rfl) (Reps.none _ _)));intro v630 w21 ho22 hb hg_ hnew_;clear hg_ hnew_;(first|rw [← Ny629.out] at ho22|(simp only [Int.reduceToNat] at ho22;rw [← Ny629.out] at ho22));have n0_ := Aside0.mk (Kd.N_elder' (Kd.Nz HO622.out) (Kd.R_base ho22) hb);have n1_ := Aside0.mk (Kd.R_elder' (Kd.Rz HO628.out) (Kd.R_base ho22) hb);have n2_ := Aside0.mk (Kd.R_lower (Kd.R_new' ho22 (Kd.R_lt (Kd.Rz HO628.out))) (below_size bz));have n3_ := Aside0.mk (below_step bz hb);clear HO622;clear HO628;clear HB;have HO622 := n0_;have HO628 := n1_;have HO631 := n2_;have HB := n3_;clear n0_ n1_ n2_ n3_;clear hb ho22;obtain ⟨Ao24,co24,eo24⟩ := Kd.R_slice HO631.out;subst eo24)|((with_reducible refine gate_builtin (b := .append) (xs := #[.tmp 34,.tmp 36]) rfl ?_);at_builtin;refine Kd.N_append (Kd.slice 3 (Kd.int .i64)) (w0 := w) w.heap.size rfl (.tmp 34) (.tmp 36) 59 24 (.slice none 0 0) 24 rfl Try.underlying59 info24 rfl (by decide) (by omega) v621 t620 y629 [.slice Ao24 y629.length co24] (fun k_ => some k_ ≠ (v627 : Value).ownBlock) (fun k_ => ((fun k_ => some k_ ≠ (v627 : Value).ownBlock)) k_ ∧ some k_ ≠ (v621 : Value).ownBlock) rfl rfl ?aP (fun _ hk => hk) ?aF ?aO ?aB ?aS ?aL ?_;(case aP => exact (Kd.FK_slice_mk (Kd.R_reads' (Kd.R_mono (ok' := (fun k_ => ((fun k_ => some k_ ≠ (v627 : Value).ownBlock)) k_ ∧ some k_ ≠ (v621 : Value).ownBlock)) (Kd.R_apart' (HO631.out) (Kd.N_typed HO622.out) (by decide)) (fun k_ hk => ⟨hk.1.2,hk.2⟩))).2.1 (Kd.R_F (Kd.R_mono (ok' := (fun k_ => ((fun k_ => some k_ ≠ (v627 : Value).ownBlock)) k_ ∧ some k_ ≠ (v621 : Value).ownBlock)) (Kd.R_apart' (HO631.out) (Kd.N_typed HO622.out) (by decide)) (fun k_ hk => ⟨hk.1.2,hk.2⟩)))));(case aB => exact bz);(case aF => exact (fun k_ hk => Kd.fresh' (Kd.R_lt (Kd.Rz HO628.out)) k_ hk));(case aO => exact (by (with_reducible repeat (first|apply Kd.N_alloc|apply Kd.N_drewN|apply Kd.N_drew));exact Kd.N_mono HO622.out (fun _ hk => hk.1.2)));(case aS => exact (below_size bz));(case aL => have := LMc19.out;omega);intro v633 w23 ho hb hg hat;rw [← Ny632.out] at ho;have n0_ := Aside0.mk (Kd.R_over' (Kd.Rz HO628.out) (Kd.N_typed (Kd.Nz HO622.out)) (by decide) hg);have n1_ := Aside0.mk (hb);have n2_ := Aside0.mk (ho);clear HO628;clear HB;clear HO622;clear HO631;have HO628 := n0_;have HB := n1_;have HO634 := n2_;clear n0_ n1_ n2_;clear ho hb hg hat))
      go_meet
      case rel => exact ⟨_,(y626),(y632),H',⟨by first|omega|exact Nat.le_refl _⟩,⟨by (with_reducible repeat (first|apply Kd.R_alloc|apply Kd.R_drewN|apply Kd.R_drew));exact Kd.R_mono HO628.out (fun _ hk => trivial)⟩,⟨by (with_reducible repeat (first|apply Kd.N_alloc|apply Kd.N_drewN|apply Kd.N_drew));exact HO634.out⟩,⟨bz⟩⟩
     ·rw [if_neg c19] at H
      exact absurd H (by simp)
    ·rw [if_neg c18] at H
     exact absurd H (by simp)
  case rest =>
   clear HC6
   try clear c1
   try clear p1
   try clear q1
   try clear hx1
   try clear hf1
   try clear c2
   try clear p2
   try clear c3
   try clear c4
   try clear c5
   try clear c6
   try clear p6
   try clear q6
   try clear hx6
   try clear c10
   try clear c10b0
   try clear c10b1
   try clear c12
   try clear c12b0
   try clear c13
   try clear c13b0
   try clear p14
   try clear q14
   try clear hx14
   try clear hf14
   try clear c18
   try clear c19
   try clear c24
   try clear hx14_0
   try clear hx624_0
   try clear p14
   try clear p624
   try clear q14
   try clear q624
   obtain ⟨kq,x4_5,x5_5,HA,HJ5,HO_4,HO_5,HB⟩ := hcut
   cases kq with
   | zero => exact absurd HA.out (by simp [spec_OrdNext.j0])
   | succ kj5 =>
    have H := HA.out
    clear HA
    simp only [spec_OrdNext.j0] at H
    replace H := Option.bind_eq_some_iff.mp H
    obtain ⟨t635,A250,H⟩ := H
    replace H : ((spec_OrdValid.f kj5 t635).bind fun t638 => (if t638 = true then (some (t635,true)) else (some ((([] : List Int)),false)))) = some (r1,r2) := H
    have A25 := Aside0.mk A250
    clear A250
    replace H := Option.bind_eq_some_iff.mp H
    obtain ⟨t638,A260,H⟩ := H
    replace H : (if t638 = true then (some (t635,true)) else (some ((([] : List Int)),false))) = some (r1,r2) := H
    have A26 := Aside0.mk A260
    clear A260
    by_cases c27 : t638 = true
    ·subst c27
     have H1 : (some (t635,true)) = some (r1,r2) := by rw [if_pos rfl] at H;exact H
     clear H
     have H := H1
     clear H1
     simp only [Option.some.injEq,Prod.mk.injEq] at H
     obtain ⟨rfl,rfl⟩ := H
     obtain ⟨Ao28,co28,eo28⟩ := Kd.R_slice HO_4.out
     subst eo28
     obtain ⟨Ao29,co29,eo29⟩ := Kd.N_slice HO_5.out
     subst eo29
     go_wp2_with (first|((with_reducible refine gate_callee (f := 76) rfl ?_);refine goesL_ (some 40) rfl rfl Try.func76 (by kernel_rfl) rfl #[.slice Ao28 x4_5.length co28,.slice Ao29 x5_5.length co29] rfl az ?_;(with_reducible refine (spec_l1Make.calls kj5 _ _ x4_5 _ _ x5_5 t635 _ ?side1 ?side2 ?side3 ?side4 A25.out).mono ?_);(case side1 => exact Kd.Cz (Kd.R_reads' HO_4.out).2.2);(case side2 => exact (Kd.R_reads' HO_4.out).2.1);(case side3 => exact Kd.Cz (Kd.N_reads' HO_5.out).2.2);(case side4 => exact (Kd.N_reads' HO_5.out).2.1);rintro e w30 ⟨v636,rfl,ho0,hb⟩;refine ⟨_,rfl,?_⟩;have n0_ := Aside0.mk (Kd.R_elder' (Kd.Rz HO_4.out) (Kd.R_base ho0) hb);have n1_ := Aside0.mk (Kd.N_elder' (Kd.Nz HO_5.out) (Kd.R_base ho0) hb);have n2_ := Aside0.mk (Kd.R_lower (Kd.R_new' ho0 (Kd.R_lt (Kd.Rz HO_4.out))) (below_size bz));have n3_ := Aside0.mk (below_step bz hb);clear HO_4;clear HO_5;clear HB;have HO_4 := n0_;have HO_5 := n1_;have HO637 := n2_;have HB := n3_;clear n0_ n1_ n2_ n3_;(try clear hb);(try clear hb2);(try clear hk);(try clear hi);(try clear ho0);obtain ⟨Ao31,co31,eo31⟩ := Kd.R_slice HO637.out;subst eo31)|((with_reducible refine gate_callee (f := 24) rfl ?_);refine goesL_ (some 42) rfl rfl Try.func24 (by kernel_rfl) rfl #[.slice Ao31 t635.length co31] rfl az ?_;(with_reducible refine (spec_OrdValid.calls kj5 _ _ t635 true _ ?side1 ?side2 A26.out).mono ?_);(case side1 => exact Kd.Cz (Kd.R_reads' HO637.out).2.2);(case side2 => exact (Kd.R_reads' HO637.out).2.1);rintro e w32 ⟨rfl,hb⟩;refine ⟨_,rfl,?_⟩;have n0_ := Aside0.mk (Kd.R_below (Kd.Rz HO_4.out) hb);have n1_ := Aside0.mk (Kd.N_below (Kd.Nz HO_5.out) hb);have n2_ := Aside0.mk (Kd.R_below (Kd.Rz HO637.out) hb);have n3_ := Aside0.mk (below_step bz hb);clear HO_4;clear HO_5;clear HO637;clear HB;have HO_4 := n0_;have HO_5 := n1_;have HO637 := n2_;have HB := n3_;clear n0_ n1_ n2_ n3_;(try clear hb);(try clear hb2);(try clear hk);(try clear hi)))
     go_ret2
     exact ⟨_,by first|rfl|(simp [errW_none,errW_some] <;> rfl)|(simp [*,errW_none,errW_some] <;> rfl),by (with_reducible repeat (first|apply Kd.R_alloc|apply Kd.R_drewN|apply Kd.R_drew));exact Kd.R_mono HO637.out (fun _ hk => trivial),bz⟩
    ·replace c27 := Bool.eq_false_iff.mpr c27
     subst c27
     have H1 : (some ((([] : List Int)),false)) = some (r1,r2) := by rw [if_neg (show ¬ (false = true) by decide)] at H;exact H
     clear H
     have H := H1
     clear H1
     obtain ⟨y639,hy639⟩ : ∃ y_ : List Int,y_ = (([] : List Int)) := ⟨_,rfl⟩
     replace H : (some (y639,false)) = some (r1,r2) := by first|(rw [hy639];with_reducible exact H)|(have H2_ := (Option.bind_some _ _).symm.trans H;rw [hy639];with_reducible exact H2_)|(have H2_ := (Option.bind_some _ _).symm.trans H;with_reducible exact H2_)|with_reducible exact H|(rw [hy639];exact H)|exact H
     have Ny639 := Aside0.mk hy639
     clear hy639
     simp only [Option.some.injEq,Prod.mk.injEq] at H
     obtain ⟨rfl,rfl⟩ := H
     obtain ⟨Ao33,co33,eo33⟩ := Kd.R_slice HO_4.out
     subst eo33
     obtain ⟨Ao34,co34,eo34⟩ := Kd.N_slice HO_5.out
     subst eo34
     go_wp2_with (first|((with_reducible refine gate_callee (f := 76) rfl ?_);refine goesL_ (some 40) rfl rfl Try.func76 (by kernel_rfl) rfl #[.slice Ao33 x4_5.length co33,.slice Ao34 x5_5.length co34] rfl az ?_;(with_reducible refine (spec_l1Make.calls kj5 _ _ x4_5 _ _ x5_5 t635 _ ?side1 ?side2 ?side3 ?side4 A25.out).mono ?_);(case side1 => exact Kd.Cz (Kd.R_reads' HO_4.out).2.2);(case side2 => exact (Kd.R_reads' HO_4.out).2.1);(case side3 => exact Kd.Cz (Kd.N_reads' HO_5.out).2.2);(case side4 => exact (Kd.N_reads' HO_5.out).2.1);rintro e w35 ⟨v636,rfl,ho0,hb⟩;refine ⟨_,rfl,?_⟩;have n0_ := Aside0.mk (Kd.R_elder' (Kd.Rz HO_4.out) (Kd.R_base ho0) hb);have n1_ := Aside0.mk (Kd.N_elder' (Kd.Nz HO_5.out) (Kd.R_base ho0) hb);have n2_ := Aside0.mk (Kd.R_lower (Kd.R_new' ho0 (Kd.R_lt (Kd.Rz HO_4.out))) (below_size bz));have n3_ := Aside0.mk (below_step bz hb);clear HO_4;clear HO_5;clear HB;have HO_4 := n0_;have HO_5 := n1_;have HO637 := n2_;have HB := n3_;clear n0_ n1_ n2_ n3_;(try clear hb);(try clear hb2);(try clear hk);(try clear hi);(try clear ho0);obtain ⟨Ao36,co36,eo36⟩ := Kd.R_slice HO637.out;subst eo36)|((with_reducible refine gate_callee (f := 24) rfl ?_);refine goesL_ (some 42) rfl rfl Try.func24 (by kernel_rfl) rfl #[.slice Ao36 t635.length co36] rfl az ?_;(with_reducible refine (spec_OrdValid.calls kj5 _ _ t635 false _ ?side1 ?side2 A26.out).mono ?_);(case side1 => exact Kd.Cz (Kd.R_reads' HO637.out).2.2);(case side2 => exact (Kd.R_reads' HO637.out).2.1);rintro e w37 ⟨rfl,hb⟩;refine ⟨_,rfl,?_⟩;have n0_ := Aside0.mk (Kd.R_below (Kd.Rz HO_4.out) hb);have n1_ := Aside0.mk (Kd.N_below (Kd.Nz HO_5.out) hb);have n2_ := Aside0.mk (Kd.R_below (Kd.Rz HO637.out) hb);have n3_ := Aside0.mk (below_step bz hb);clear HO_4;clear HO_5;clear HO637;clear HB;have HO_4 := n0_;have HO_5 := n1_;have HO637 := n2_;have HB := n3_;clear n0_ n1_ n2_ n3_;(try clear hb);(try clear hb2);(try clear hk);(try clear hi))|((with_reducible refine gate_dst (N := 44) rfl ?_);refine Kd.R_lit (Kd.int .i64) _ 3 ?hg (N := 44) ?hd (xs := ([] : List Int)) (inner := []) (ok := fun _ => True) (okp := fun _ => True) ?hr ?hp (fun _ hk => hk) trivial (Below.refl _ _) (Nat.le_refl _) (by simp) ?_;(case hd => rfl);(case hg => rfl);(case hr => first|(go_simp;done)|(go_simp;rfl));(case hp => exact (Reps.none _ _));intro v640 w38 ho39 hb hg_ hnew_;clear hg_ hnew_;(first|rw [← Ny639.out] at ho39|(simp only [Int.reduceToNat] at ho39;rw [← Ny639.out] at ho39));have n0_ := Aside0.mk (Kd.R_elder' (Kd.Rz HO_4.out) (Kd.R_base ho39) hb);have n1_ := Aside0.mk (Kd.N_elder' (Kd.Nz HO_5.out) (Kd.R_base ho39) hb);have n2_ := Aside0.mk (Kd.R_elder' (Kd.Rz HO637.out) (Kd.R_base ho39) hb);have n3_ := Aside0.mk (Kd.R_lower (Kd.R_new' (Kd.R_new' ho39 (Kd.R_lt (Kd.Rz HO_4.out))) (Kd.R_lt (Kd.Rz HO637.out))) (below_size bz));have n4_ := Aside0.mk (below_step bz hb);clear HO_4;clear HO_5;clear HO637;clear HB;have HO_4 := n0_;have HO_5 := n1_;have HO637 := n2_;have HO641 := n3_;have HB := n4_;clear n0_ n1_ n2_ n3_ n4_;clear hb ho39))
     go_ret2
     exact ⟨_,by first|rfl|(simp [errW_none,errW_some] <;> rfl)|(simp [*,errW_none,errW_some] <;> rfl),by (with_reducible repeat (first|apply Kd.R_alloc|apply Kd.R_drewN|apply Kd.R_drew));exact Kd.R_mono HO641.out (fun _ hk => trivial),bz⟩
 ·replace c3 := Bool.eq_false_iff.mpr c3
  subst c3
  have H1 : (some ((([] : List Int)),false)) = some (r1,r2) := by rw [if_neg (show ¬ (false = true) by decide)] at H;exact H
  clear H
  have H := H1
  clear H1
  obtain ⟨y614,hy614⟩ : ∃ y_ : List Int,y_ = (([] : List Int)) := ⟨_,rfl⟩
  replace H : (some (y614,false)) = some (r1,r2) := by first|(rw [hy614];with_reducible exact H)|(have H2_ := (Option.bind_some _ _).symm.trans H;rw [hy614];with_reducible exact H2_)|(have H2_ := (Option.bind_some _ _).symm.trans H;with_reducible exact H2_)|with_reducible exact H|(rw [hy614];exact H)|exact H
  have Ny614 := Aside0.mk hy614
  clear hy614
  simp only [Option.some.injEq,Prod.mk.injEq] at H
  obtain ⟨rfl,rfl⟩ := H
  go_enter Try.func51,Try.ntmps51
  go_wp2_with (first|((with_reducible refine gate_callee (f := 24) rfl ?_);refine goesL_ (some 8) rfl rfl Try.func24 (by kernel_rfl) rfl #[.slice A0 l0.length c0] rfl az ?_;(with_reducible refine (spec_OrdValid.calls k _ _ l0 false _ ?side1 ?side2 A2.out).mono ?_);(case side1 => exact Kd.Cz HR0.out);(case side2 => exact HC0.out);rintro e w40 ⟨rfl,hb⟩;refine ⟨_,rfl,?_⟩;have n0_ := Aside0.mk (below_step bz hb);clear HB;have HB := n0_;clear n0_;(try clear hb);(try clear hb2);(try clear hk);(try clear hi))|((with_reducible refine gate_dst (N := 10) rfl ?_);refine Kd.R_lit (Kd.int .i64) _ 3 ?hg (N := 10) ?hd (xs := ([] : List Int)) (inner := []) (ok := fun _ => True) (okp := fun _ => True) ?hr ?hp (fun _ hk => hk) trivial (Below.refl _ _) (Nat.le_refl _) (by simp) ?_;(case hd => rfl);(case hg => rfl);(case hr => first|(go_simp;done)|(go_simp;rfl));(case hp => exact (Reps.none _ _));intro v615 w41 ho42 hb hg_ hnew_;clear hg_ hnew_;(first|rw [← Ny614.out] at ho42|(simp only [Int.reduceToNat] at ho42;rw [← Ny614.out] at ho42));have n0_ := Aside0.mk (Kd.R_lower ho42 (below_size bz));have n1_ := Aside0.mk (below_step bz hb);clear HB;have HO616 := n0_;have HB := n1_;clear n0_ n1_;clear hb ho42))
  go_ret2
  exact ⟨_,by first|rfl|(simp [errW_none,errW_some] <;> rfl)|(simp [*,errW_none,errW_some] <;> rfl),by (with_reducible repeat (first|apply Kd.R_alloc|apply Kd.R_drewN|apply Kd.R_drew));exact HO616.out,bz⟩

end Go.Proofs.Ytninfokihgbgpaa.P
