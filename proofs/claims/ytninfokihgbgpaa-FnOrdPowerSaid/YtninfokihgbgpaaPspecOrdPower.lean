/- The walk of one Go function that the law reaches: it comes to what the Lean function of its name tells. -/
import Derived.Test.YtninfokihgbgpaaP0
import Derived.Test.YtninfokihgbgpaaPspecOrdValid
namespace Go.Proofs.Ytninfokihgbgpaa.P
open Go.RowKit Go.Proofs.YtninfokihgbgpaaW.PrintWords Go.Proofs.YtninfokihgbgpaaW.PrintLast Go.Proofs.YtninfokihgbgpaaW.PrintMore
attribute [local go_sem] max2_int min2_int max_two min_two max_three min_three max_four min_four   
set_option linter.unusedVariables false
set_option linter.unusedSimpArgs false

/-! ### spec_OrdPower: function 43 -/
def spec_OrdPower.f (k : Nat) (l0 : List Int) : Option (List Int × Bool) := (some (([1,1] : List Int) : List Int)).bind fun y913 => (if y913.length + l0.length < 17592186044416 then ((some (y913 ++ l0 : List Int)).bind fun y916 => ((spec_OrdValid.f k l0).bind fun t919 => (if t919 = true then ((spec_OrdValid.f k y916).bind fun t920 => (if t920 = true then (some (y916,true)) else (some ((([] : List Int)),false)))) else (some ((([] : List Int)),false))))) else (none))
theorem spec_OrdPower.mono : ∀ a0 k,LeO (spec_OrdPower.f k a0) (spec_OrdPower.f (k + 1) a0) := by
 intro a0 k
 unfold spec_OrdPower.f
 repeat' first|(with_reducible first|exact spec_OrdValid.mono _ _|exact LeO.refl _|exact LeO.none _|refine LeO.ite ?_ ?_|refine LeO.bind ?_ (fun _ => ?_))|exact spec_OrdValid.mono _ _|exact LeO.none _|refine LeO.ite ?_ ?_|refine LeO.bind ?_ (fun _ => ?_)
set_option maxHeartbeats 8000000 in
set_option maxRecDepth 100000 in
theorem spec_OrdPower.calls (k : Nat) (A0 : Option Addr) (c0 : Nat) (l0 : List Int) (r1 : List Int) (r2 : Bool) (w : World) (hr0 : Kd.C (Kd.int .i64) w A0 l0.length l0) (hc0 : l0.length ≤ c0) (h : spec_OrdPower.f k l0 = some (r1,r2)) :
  Calls Try.prog 43 #[.slice A0 l0.length c0] w fun e w' => ∃ v0_ : Value,e = .returned (.tuple #[v0_,.bool r2]) ∧ Kd.R (Kd.int .i64) 3 w' w.heap.size (fun _ => True) v0_ r1 ∧ Below w.heap.size w w' := by
 have HR0 := Aside0.mk hr0
 have HC0 := Aside0.mk hc0
 clear hr0 hc0
 have HB := Aside0.mk (Below.refl w.heap.size w)
 have H : ((some (([1,1] : List Int) : List Int)).bind fun y913 => (if y913.length + l0.length < 17592186044416 then ((some (y913 ++ l0 : List Int)).bind fun y916 => ((spec_OrdValid.f k l0).bind fun t919 => (if t919 = true then ((spec_OrdValid.f k y916).bind fun t920 => (if t920 = true then (some (y916,true)) else (some ((([] : List Int)),false)))) else (some ((([] : List Int)),false))))) else (none))) = some (r1,r2) := h
 clear h
 obtain ⟨y913,hy913⟩ : ∃ y_ : List Int,y_ = (([1,1] : List Int)) := ⟨_,rfl⟩
 replace H : (if y913.length + l0.length < 17592186044416 then ((some (y913 ++ l0 : List Int)).bind fun y916 => ((spec_OrdValid.f k l0).bind fun t919 => (if t919 = true then ((spec_OrdValid.f k y916).bind fun t920 => (if t920 = true then (some (y916,true)) else (some ((([] : List Int)),false)))) else (some ((([] : List Int)),false))))) else (none)) = some (r1,r2) := by first|(rw [hy913];with_reducible exact H)|(have H2_ := (Option.bind_some _ _).symm.trans H;rw [hy913];with_reducible exact H2_)|(have H2_ := (Option.bind_some _ _).symm.trans H;with_reducible exact H2_)|with_reducible exact H|(rw [hy913];exact H)|exact H
 have Ny913 := Aside0.mk hy913
 clear hy913
 by_cases c2 : y913.length + l0.length < 17592186044416
 ·rw [if_pos c2] at H
  have LMc2 := Aside0.mk c2
  clear c2
  obtain ⟨y916,hy916⟩ : ∃ y_ : List Int,y_ = (y913 ++ l0) := ⟨_,rfl⟩
  replace H : ((spec_OrdValid.f k l0).bind fun t919 => (if t919 = true then ((spec_OrdValid.f k y916).bind fun t920 => (if t920 = true then (some (y916,true)) else (some ((([] : List Int)),false)))) else (some ((([] : List Int)),false)))) = some (r1,r2) := by first|(rw [hy916];with_reducible exact H)|(have H2_ := (Option.bind_some _ _).symm.trans H;rw [hy916];with_reducible exact H2_)|(have H2_ := (Option.bind_some _ _).symm.trans H;with_reducible exact H2_)|with_reducible exact H|(rw [hy916];exact H)|exact H
  have Ny916 := Aside0.mk hy916
  clear hy916
  replace H := Option.bind_eq_some_iff.mp H
  obtain ⟨t919,A30,H⟩ := H
  replace H : (if t919 = true then ((spec_OrdValid.f k y916).bind fun t920 => (if t920 = true then (some (y916,true)) else (some ((([] : List Int)),false)))) else (some ((([] : List Int)),false))) = some (r1,r2) := H
  have A3 := Aside0.mk A30
  clear A30
  by_cases c4 : t919 = true
  ·subst c4
   have H1 : ((spec_OrdValid.f k y916).bind fun t920 => (if t920 = true then (some (y916,true)) else (some ((([] : List Int)),false)))) = some (r1,r2) := by rw [if_pos rfl] at H;exact H
   clear H
   have H := H1
   clear H1
   replace H := Option.bind_eq_some_iff.mp H
   obtain ⟨t920,A50,H⟩ := H
   replace H : (if t920 = true then (some (y916,true)) else (some ((([] : List Int)),false))) = some (r1,r2) := H
   have A5 := Aside0.mk A50
   clear A50
   by_cases c6 : t920 = true
   ·subst c6
    have H1 : (some (y916,true)) = some (r1,r2) := by rw [if_pos rfl] at H;exact H
    clear H
    have H := H1
    clear H1
    simp only [Option.some.injEq,Prod.mk.injEq] at H
    obtain ⟨rfl,rfl⟩ := H
    go_enter Try.func43,Try.ntmps43
    go_wp2_with (first|((with_reducible refine gate_dst (N := 5) rfl ?_);refine Kd.R_lit (Kd.int .i64) _ 3 ?hg (N := 5) ?hd (xs := ([1,1] : List Int)) (inner := [.int .i64 1,.int .i64 1]) (ok := fun _ => True) (okp := fun _ => True) ?hr ?hp (fun _ hk => hk) trivial (Below.refl _ _) (Nat.le_refl _) (by simp) ?_;(case hd => rfl);(case hg => rfl);(case hr => first|(go_simp;done)|(go_simp;rfl));(case hp => exact (Reps.one (show Kd.M (Kd.int .i64) _ _ _ 1 [.int .i64 1] from rfl) (Reps.one (show Kd.M (Kd.int .i64) _ _ _ 1 [.int .i64 1] from rfl) (Reps.none _ _))));intro v914 w7 ho8 hb hg_ hnew_;clear hg_ hnew_;(first|rw [← Ny913.out] at ho8|(simp only [Int.reduceToNat] at ho8;rw [← Ny913.out] at ho8));have n0_ := Aside0.mk (Kd.R_lower ho8 (below_size bz));have n1_ := Aside0.mk (below_step bz hb);clear HB;have HO915 := n0_;have HB := n1_;clear n0_ n1_;clear hb ho8)|((with_reducible refine gate_builtin (b := .append) (xs := #[.tmp 5,.tmp 6]) rfl ?_);at_builtin;refine Kd.R_append_rows (Kd.int .i64) (w0 := w) w.heap.size rfl (.tmp 5) (.tmp 6) 24 3 (.int .i64 0) 8 rfl Try.underlying24 info3 rfl (by decide) (by omega) v914 y913 l0 _ _ _ (fun _ => True) (fun _ => False) rfl rfl ?aO ?aR (fun _ _ h => h) (fun _ h => h.elim) ?aF ?aB ?aS ?aL ?_;(case aR => repeat (first|exact (Kd.C_below HR0.out HB.out)|(with_reducible refine Kd.C_alloc ?_ _)|(with_reducible refine Kd.C_drewN ?_ _)|(with_reducible refine Kd.C_drew ?_)));(case aB => exact bz);(case aF => exact (fun _ _ => trivial));(case aO => exact (Kd.Rz HO915.out));(case aS => exact (below_size bz));(case aL => have := LMc2.out;omega);intro v917 w9 ho hb hg hat;rw [← Ny916.out] at ho;have n0_ := Aside0.mk (hb);have n1_ := Aside0.mk (ho);clear HB;clear HO915;have HB := n0_;have HO918 := n1_;clear n0_ n1_;clear ho hb hg hat)|((with_reducible refine gate_callee (f := 24) rfl ?_);refine goesL_ (some 9) rfl rfl Try.func24 (by kernel_rfl) rfl #[.slice A0 l0.length c0] rfl az ?_;(with_reducible refine (spec_OrdValid.calls k _ _ l0 true _ ?side1 ?side2 A3.out).mono ?_);(case side1 => exact Kd.Cz (Kd.C_below HR0.out HB.out));(case side2 => exact HC0.out);rintro e w10 ⟨rfl,hb⟩;refine ⟨_,rfl,?_⟩;have n0_ := Aside0.mk (Kd.R_below (Kd.Rz HO918.out) hb);have n1_ := Aside0.mk (below_step bz hb);clear HO918;clear HB;have HO918 := n0_;have HB := n1_;clear n0_ n1_;(try clear hb);(try clear hb2);(try clear hk);(try clear hi);obtain ⟨Ao11,co11,eo11⟩ := Kd.R_slice HO918.out;subst eo11)|(go_at_call 24;(with_reducible refine (spec_OrdValid.calls k _ _ y916 true _ ?side1 ?side2 A5.out).mono ?_);(case side1 => exact Kd.Cz (Kd.R_reads' HO918.out).2.2);(case side2 => exact (Kd.R_reads' HO918.out).2.1);rintro e w12 ⟨rfl,hb⟩;have n0_ := Aside0.mk (Kd.R_below (Kd.Rz HO918.out) hb);have n1_ := Aside0.mk (below_step bz hb);clear HO918;clear HB;have HO918 := n0_;have HB := n1_;clear n0_ n1_;(try clear hb);(try clear hb2);(try clear hk);(try clear hi)))
    go_ret2
    exact ⟨_,by first|rfl|(simp [errW_none,errW_some] <;> rfl)|(simp [*,errW_none,errW_some] <;> rfl),by (with_reducible repeat (first|apply Kd.R_alloc|apply Kd.R_drewN|apply Kd.R_drew));exact HO918.out,bz⟩
   ·replace c6 := Bool.eq_false_iff.mpr c6
    subst c6
    have H1 : (some ((([] : List Int)),false)) = some (r1,r2) := by rw [if_neg (show ¬ (false = true) by decide)] at H;exact H
    clear H
    have H := H1
    clear H1
    obtain ⟨y921,hy921⟩ : ∃ y_ : List Int,y_ = (([] : List Int)) := ⟨_,rfl⟩
    replace H : (some (y921,false)) = some (r1,r2) := by first|(rw [hy921];with_reducible exact H)|(have H2_ := (Option.bind_some _ _).symm.trans H;rw [hy921];with_reducible exact H2_)|(have H2_ := (Option.bind_some _ _).symm.trans H;with_reducible exact H2_)|with_reducible exact H|(rw [hy921];exact H)|exact H
    have Ny921 := Aside0.mk hy921
    clear hy921
    simp only [Option.some.injEq,Prod.mk.injEq] at H
    obtain ⟨rfl,rfl⟩ := H
    go_enter Try.func43,Try.ntmps43
    go_wp2_with (first|((with_reducible refine gate_dst (N := 5) rfl ?_);refine Kd.R_lit (Kd.int .i64) _ 3 ?hg (N := 5) ?hd (xs := ([1,1] : List Int)) (inner := [.int .i64 1,.int .i64 1]) (ok := fun _ => True) (okp := fun _ => True) ?hr ?hp (fun _ hk => hk) trivial (Below.refl _ _) (Nat.le_refl _) (by simp) ?_;(case hd => rfl);(case hg => rfl);(case hr => first|(go_simp;done)|(go_simp;rfl));(case hp => exact (Reps.one (show Kd.M (Kd.int .i64) _ _ _ 1 [.int .i64 1] from rfl) (Reps.one (show Kd.M (Kd.int .i64) _ _ _ 1 [.int .i64 1] from rfl) (Reps.none _ _))));intro v914 w13 ho14 hb hg_ hnew_;clear hg_ hnew_;(first|rw [← Ny913.out] at ho14|(simp only [Int.reduceToNat] at ho14;rw [← Ny913.out] at ho14));have n0_ := Aside0.mk (Kd.R_lower ho14 (below_size bz));have n1_ := Aside0.mk (below_step bz hb);clear HB;have HO915 := n0_;have HB := n1_;clear n0_ n1_;clear hb ho14)|((with_reducible refine gate_builtin (b := .append) (xs := #[.tmp 5,.tmp 6]) rfl ?_);at_builtin;refine Kd.R_append_rows (Kd.int .i64) (w0 := w) w.heap.size rfl (.tmp 5) (.tmp 6) 24 3 (.int .i64 0) 8 rfl Try.underlying24 info3 rfl (by decide) (by omega) v914 y913 l0 _ _ _ (fun _ => True) (fun _ => False) rfl rfl ?aO ?aR (fun _ _ h => h) (fun _ h => h.elim) ?aF ?aB ?aS ?aL ?_;(case aR => repeat (first|exact (Kd.C_below HR0.out HB.out)|(with_reducible refine Kd.C_alloc ?_ _)|(with_reducible refine Kd.C_drewN ?_ _)|(with_reducible refine Kd.C_drew ?_)));(case aB => exact bz);(case aF => exact (fun _ _ => trivial));(case aO => exact (Kd.Rz HO915.out));(case aS => exact (below_size bz));(case aL => have := LMc2.out;omega);intro v917 w15 ho hb hg hat;rw [← Ny916.out] at ho;have n0_ := Aside0.mk (hb);have n1_ := Aside0.mk (ho);clear HB;clear HO915;have HB := n0_;have HO918 := n1_;clear n0_ n1_;clear ho hb hg hat)|((with_reducible refine gate_callee (f := 24) rfl ?_);refine goesL_ (some 9) rfl rfl Try.func24 (by kernel_rfl) rfl #[.slice A0 l0.length c0] rfl az ?_;(with_reducible refine (spec_OrdValid.calls k _ _ l0 true _ ?side1 ?side2 A3.out).mono ?_);(case side1 => exact Kd.Cz (Kd.C_below HR0.out HB.out));(case side2 => exact HC0.out);rintro e w16 ⟨rfl,hb⟩;refine ⟨_,rfl,?_⟩;have n0_ := Aside0.mk (Kd.R_below (Kd.Rz HO918.out) hb);have n1_ := Aside0.mk (below_step bz hb);clear HO918;clear HB;have HO918 := n0_;have HB := n1_;clear n0_ n1_;(try clear hb);(try clear hb2);(try clear hk);(try clear hi);obtain ⟨Ao17,co17,eo17⟩ := Kd.R_slice HO918.out;subst eo17)|(go_at_call 24;(with_reducible refine (spec_OrdValid.calls k _ _ y916 false _ ?side1 ?side2 A5.out).mono ?_);(case side1 => exact Kd.Cz (Kd.R_reads' HO918.out).2.2);(case side2 => exact (Kd.R_reads' HO918.out).2.1);rintro e w18 ⟨rfl,hb⟩;have n0_ := Aside0.mk (Kd.R_below (Kd.Rz HO918.out) hb);have n1_ := Aside0.mk (below_step bz hb);clear HO918;clear HB;have HO918 := n0_;have HB := n1_;clear n0_ n1_;(try clear hb);(try clear hb2);(try clear hk);(try clear hi))|((with_reducible refine gate_dst (N := 16) rfl ?_);refine Kd.R_lit (Kd.int .i64) _ 3 ?hg (N := 16) ?hd (xs := ([] : List Int)) (inner := []) (ok := fun _ => True) (okp := fun _ => True) ?hr ?hp (fun _ hk => hk) trivial (Below.refl _ _) (Nat.le_refl _) (by simp) ?_;(case hd => rfl);(case hg => rfl);(case hr => first|(go_simp;done)|(go_simp;rfl));(case hp => exact (Reps.none _ _));intro v922 w19 ho20 hb hg_ hnew_;clear hg_ hnew_;(first|rw [← Ny921.out] at ho20|(simp only [Int.reduceToNat] at ho20;rw [← Ny921.out] at ho20));have n0_ := Aside0.mk (Kd.R_elder' (Kd.Rz HO918.out) (Kd.R_base ho20) hb);have n1_ := Aside0.mk (Kd.R_lower (Kd.R_new' ho20 (Kd.R_lt (Kd.Rz HO918.out))) (below_size bz));have n2_ := Aside0.mk (below_step bz hb);clear HO918;clear HB;have HO918 := n0_;have HO923 := n1_;have HB := n2_;clear n0_ n1_ n2_;clear hb ho20))
    go_ret2
    exact ⟨_,by first|rfl|(simp [errW_none,errW_some] <;> rfl)|(simp [*,errW_none,errW_some] <;> rfl),by (with_reducible repeat (first|apply Kd.R_alloc|apply Kd.R_drewN|apply Kd.R_drew));exact Kd.R_mono HO923.out (fun _ hk => trivial),bz⟩
  ·replace c4 := Bool.eq_false_iff.mpr c4
   subst c4
   have H1 : (some ((([] : List Int)),false)) = some (r1,r2) := by rw [if_neg (show ¬ (false = true) by decide)] at H;exact H
   clear H
   have H := H1
   clear H1
   obtain ⟨y924,hy924⟩ : ∃ y_ : List Int,y_ = (([] : List Int)) := ⟨_,rfl⟩
   replace H : (some (y924,false)) = some (r1,r2) := by first|(rw [hy924];with_reducible exact H)|(have H2_ := (Option.bind_some _ _).symm.trans H;rw [hy924];with_reducible exact H2_)|(have H2_ := (Option.bind_some _ _).symm.trans H;with_reducible exact H2_)|with_reducible exact H|(rw [hy924];exact H)|exact H
   have Ny924 := Aside0.mk hy924
   clear hy924
   simp only [Option.some.injEq,Prod.mk.injEq] at H
   obtain ⟨rfl,rfl⟩ := H
   go_enter Try.func43,Try.ntmps43
   go_wp2_with (first|((with_reducible refine gate_dst (N := 5) rfl ?_);refine Kd.R_lit (Kd.int .i64) _ 3 ?hg (N := 5) ?hd (xs := ([1,1] : List Int)) (inner := [.int .i64 1,.int .i64 1]) (ok := fun _ => True) (okp := fun _ => True) ?hr ?hp (fun _ hk => hk) trivial (Below.refl _ _) (Nat.le_refl _) (by simp) ?_;(case hd => rfl);(case hg => rfl);(case hr => first|(go_simp;done)|(go_simp;rfl));(case hp => exact (Reps.one (show Kd.M (Kd.int .i64) _ _ _ 1 [.int .i64 1] from rfl) (Reps.one (show Kd.M (Kd.int .i64) _ _ _ 1 [.int .i64 1] from rfl) (Reps.none _ _))));intro v914 w21 ho22 hb hg_ hnew_;clear hg_ hnew_;(first|rw [← Ny913.out] at ho22|(simp only [Int.reduceToNat] at ho22;rw [← Ny913.out] at ho22));have n0_ := Aside0.mk (Kd.R_lower ho22 (below_size bz));have n1_ := Aside0.mk (below_step bz hb);clear HB;have HO915 := n0_;have HB := n1_;clear n0_ n1_;clear hb ho22)|((with_reducible refine gate_builtin (b := .append) (xs := #[.tmp 5,.tmp 6]) rfl ?_);at_builtin;refine Kd.R_append_rows (Kd.int .i64) (w0 := w) w.heap.size rfl (.tmp 5) (.tmp 6) 24 3 (.int .i64 0) 8 rfl Try.underlying24 info3 rfl (by decide) (by omega) v914 y913 l0 _ _ _ (fun _ => True) (fun _ => False) rfl rfl ?aO ?aR (fun _ _ h => h) (fun _ h => h.elim) ?aF ?aB ?aS ?aL ?_;(case aR => repeat (first|exact (Kd.C_below HR0.out HB.out)|(with_reducible refine Kd.C_alloc ?_ _)|(with_reducible refine Kd.C_drewN ?_ _)|(with_reducible refine Kd.C_drew ?_)));(case aB => exact bz);(case aF => exact (fun _ _ => trivial));(case aO => exact (Kd.Rz HO915.out));(case aS => exact (below_size bz));(case aL => have := LMc2.out;omega);intro v917 w23 ho hb hg hat;rw [← Ny916.out] at ho;have n0_ := Aside0.mk (hb);have n1_ := Aside0.mk (ho);clear HB;clear HO915;have HB := n0_;have HO918 := n1_;clear n0_ n1_;clear ho hb hg hat)|((with_reducible refine gate_callee (f := 24) rfl ?_);refine goesL_ (some 9) rfl rfl Try.func24 (by kernel_rfl) rfl #[.slice A0 l0.length c0] rfl az ?_;(with_reducible refine (spec_OrdValid.calls k _ _ l0 false _ ?side1 ?side2 A3.out).mono ?_);(case side1 => exact Kd.Cz (Kd.C_below HR0.out HB.out));(case side2 => exact HC0.out);rintro e w24 ⟨rfl,hb⟩;refine ⟨_,rfl,?_⟩;have n0_ := Aside0.mk (Kd.R_below (Kd.Rz HO918.out) hb);have n1_ := Aside0.mk (below_step bz hb);clear HO918;clear HB;have HO918 := n0_;have HB := n1_;clear n0_ n1_;(try clear hb);(try clear hb2);(try clear hk);(try clear hi))|((with_reducible refine gate_dst (N := 16) rfl ?_);refine Kd.R_lit (Kd.int .i64) _ 3 ?hg (N := 16) ?hd (xs := ([] : List Int)) (inner := []) (ok := fun _ => True) (okp := fun _ => True) ?hr ?hp (fun _ hk => hk) trivial (Below.refl _ _) (Nat.le_refl _) (by simp) ?_;(case hd => rfl);(case hg => rfl);(case hr => first|(go_simp;done)|(go_simp;rfl));(case hp => exact (Reps.none _ _));intro v925 w25 ho26 hb hg_ hnew_;clear hg_ hnew_;(first|rw [← Ny924.out] at ho26|(simp only [Int.reduceToNat] at ho26;rw [← Ny924.out] at ho26));have n0_ := Aside0.mk (Kd.R_elder' (Kd.Rz HO918.out) (Kd.R_base ho26) hb);have n1_ := Aside0.mk (Kd.R_lower (Kd.R_new' ho26 (Kd.R_lt (Kd.Rz HO918.out))) (below_size bz));have n2_ := Aside0.mk (below_step bz hb);clear HO918;clear HB;have HO918 := n0_;have HO926 := n1_;have HB := n2_;clear n0_ n1_ n2_;clear hb ho26))
   go_ret2
   exact ⟨_,by first|rfl|(simp [errW_none,errW_some] <;> rfl)|(simp [*,errW_none,errW_some] <;> rfl),by (with_reducible repeat (first|apply Kd.R_alloc|apply Kd.R_drewN|apply Kd.R_drew));exact Kd.R_mono HO926.out (fun _ hk => trivial),bz⟩
 ·rw [if_neg c2] at H
  exact absurd H (by simp)

end Go.Proofs.Ytninfokihgbgpaa.P
