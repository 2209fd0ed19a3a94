/- The walk of one Go function that the law reaches: it comes to what the Lean function of its name tells. -/
import Derived.Test.YtpgkpahhohfmhaaP0
import Derived.Test.YtpgkpahhohfmhaaPspecl1In
import Derived.Test.YtpgkpahhohfmhaaPspecl4Ord
namespace Go.Proofs.Ytpgkpahhohfmhaa.P
open Go.RowKit Go.Proofs.YtpgkpahhohfmhaaW.PrintWords Go.Proofs.YtpgkpahhohfmhaaW.PrintLast Go.Proofs.YtpgkpahhohfmhaaW.PrintMore
attribute [local go_sem] max2_int min2_int max_two min_two max_three min_three max_four min_four   
set_option linter.unusedVariables false
set_option linter.unusedSimpArgs false

/-! ### spec_OrdInBase: function 14 -/
def spec_OrdInBase.f (k : Nat) (a0 : Int) (a1 : Int) : Option (List Int) := (spec_l1In.f a0 0 1000000000).bind fun t228 => (if t228 = true then ((spec_l1In.f a1 2 90).bind fun t229 => (if t229 = true then ((spec_l4Ord.f k a0 a1).bind fun t230 => (if (t230.length : Int) > 60 then (some (([] : List Int))) else ((spec_l4Ord.f k a0 a1).bind fun t236 => (some t236)))) else (some (([] : List Int))))) else (some (([] : List Int))))
theorem spec_OrdInBase.mono : ∀ a0 a1 k,LeO (spec_OrdInBase.f k a0 a1) (spec_OrdInBase.f (k + 1) a0 a1) := by
 intro a0 a1 k
 unfold spec_OrdInBase.f
 repeat' first|(with_reducible first|exact spec_l4Ord.mono _ _ _|exact LeO.refl _|exact LeO.none _|refine LeO.ite ?_ ?_|refine LeO.bind ?_ (fun _ => ?_))|exact spec_l4Ord.mono _ _ _|exact LeO.none _|refine LeO.ite ?_ ?_|refine LeO.bind ?_ (fun _ => ?_)
set_option maxHeartbeats 8000000 in
set_option maxRecDepth 100000 in
theorem spec_OrdInBase.calls (k : Nat) (a0 : Int) (a1 : Int) (r : List Int) (w : World) (h : spec_OrdInBase.f k a0 a1 = some r) :
  Calls Try.prog 14 #[.int .i64 a0,.int .i64 a1] w fun e w' => ∃ v0_ : Value,e = .returned (v0_) ∧ Kd.R (Kd.int .i64) 3 w' w.heap.size (fun _ => True) v0_ r ∧ Below w.heap.size w w' := by
 have HB := Aside0.mk (Below.refl w.heap.size w)
 have H : ((spec_l1In.f a0 0 1000000000).bind fun t228 => (if t228 = true then ((spec_l1In.f a1 2 90).bind fun t229 => (if t229 = true then ((spec_l4Ord.f k a0 a1).bind fun t230 => (if (t230.length : Int) > 60 then (some (([] : List Int))) else ((spec_l4Ord.f k a0 a1).bind fun t236 => (some t236)))) else (some (([] : List Int))))) else (some (([] : List Int))))) = some r := h
 clear h
 replace H := Option.bind_eq_some_iff.mp H
 obtain ⟨t228,A30,H⟩ := H
 replace H : (if t228 = true then ((spec_l1In.f a1 2 90).bind fun t229 => (if t229 = true then ((spec_l4Ord.f k a0 a1).bind fun t230 => (if (t230.length : Int) > 60 then (some (([] : List Int))) else ((spec_l4Ord.f k a0 a1).bind fun t236 => (some t236)))) else (some (([] : List Int))))) else (some (([] : List Int)))) = some r := H
 have A3 := Aside0.mk A30
 clear A30
 by_cases c4 : t228 = true
 ·subst c4
  have H1 : ((spec_l1In.f a1 2 90).bind fun t229 => (if t229 = true then ((spec_l4Ord.f k a0 a1).bind fun t230 => (if (t230.length : Int) > 60 then (some (([] : List Int))) else ((spec_l4Ord.f k a0 a1).bind fun t236 => (some t236)))) else (some (([] : List Int))))) = some r := by rw [if_pos rfl] at H;exact H
  clear H
  have H := H1
  clear H1
  replace H := Option.bind_eq_some_iff.mp H
  obtain ⟨t229,A50,H⟩ := H
  replace H : (if t229 = true then ((spec_l4Ord.f k a0 a1).bind fun t230 => (if (t230.length : Int) > 60 then (some (([] : List Int))) else ((spec_l4Ord.f k a0 a1).bind fun t236 => (some t236)))) else (some (([] : List Int)))) = some r := H
  have A5 := Aside0.mk A50
  clear A50
  by_cases c6 : t229 = true
  ·subst c6
   have H1 : ((spec_l4Ord.f k a0 a1).bind fun t230 => (if (t230.length : Int) > 60 then (some (([] : List Int))) else ((spec_l4Ord.f k a0 a1).bind fun t236 => (some t236)))) = some r := by rw [if_pos rfl] at H;exact H
   clear H
   have H := H1
   clear H1
   replace H := Option.bind_eq_some_iff.mp H
   obtain ⟨t230,A70,H⟩ := H
   replace H : (if (t230.length : Int) > 60 then (some (([] : List Int))) else ((spec_l4Ord.f k a0 a1).bind fun t236 => (some t236))) = some r := H
   have A7 := Aside0.mk A70
   clear A70
   by_cases c8 : (t230.length : Int) > 60
   ·rw [if_pos c8] at H
    have c8b0 : decide (60 < (t230.length : Int)) = true := decide_eq_true c8
    have c8b1 : decide (60 < t230.length) = true := decide_eq_true (by omega)
    clear c8
    obtain ⟨y233,hy233⟩ : ∃ y_ : List Int,y_ = (([] : List Int)) := ⟨_,rfl⟩
    replace H : (some y233) = some r := by first|(rw [hy233];with_reducible exact H)|(have H2_ := (Option.bind_some _ _).symm.trans H;rw [hy233];with_reducible exact H2_)|(have H2_ := (Option.bind_some _ _).symm.trans H;with_reducible exact H2_)|with_reducible exact H|(rw [hy233];exact H)|exact H
    have Ny233 := Aside0.mk hy233
    clear hy233
    obtain rfl := Option.some.inj H
    go_enter Try.func14,Try.ntmps14
    go_wp2_with (first|((with_reducible refine gate_callee (f := 51) rfl ?_);refine goesL_ (some 6) rfl rfl Try.func51 (by kernel_rfl) rfl #[.int .i64 a0,.int .i64 0,.int .i64 1000000000] rfl az ?_;(with_reducible refine (spec_l1In.calls a0 0 1000000000 true _ A3.out).mono ?_);rintro e w' ⟨rfl,⟨nd,rfl⟩⟩;refine ⟨_,rfl,?_⟩)|(go_at_call 51;(with_reducible refine (spec_l1In.calls a1 2 90 true _ A5.out).mono ?_);rintro e w' ⟨rfl,⟨nd,rfl⟩⟩)|(go_at_call 52;(with_reducible refine (spec_l4Ord.calls k a0 a1 t230 _ A7.out).mono ?_);rintro e w9 ⟨v231,rfl,ho0,hb⟩;have n0_ := Aside0.mk (Kd.R_lower ho0 (below_size bz));have n1_ := Aside0.mk (below_step bz hb);clear HB;have HO232 := n0_;have HB := n1_;clear n0_ n1_;(try clear hb);(try clear hb2);(try clear hk);(try clear hi);(try clear ho0);obtain ⟨Ao10,co10,eo10⟩ := Kd.R_slice HO232.out;subst eo10)|((with_reducible refine gate_dst (N := 20) rfl ?_);refine Kd.R_lit (Kd.int .i64) _ 3 ?hg (N := 20) ?hd (xs := ([] : List Int)) (inner := []) (ok := fun _ => True) (okp := fun _ => True) ?hr ?hp (fun _ hk => hk) trivial (Below.refl _ _) (Nat.le_refl _) (by simp) ?_;(case hd => rfl);(case hg => rfl);(case hr => first|(go_simp;done)|(go_simp;rfl));(case hp => exact (Reps.none _ _));intro v234 w11 ho12 hb hg_ hnew_;clear hg_ hnew_;(first|rw [← Ny233.out] at ho12|(simp only [Int.reduceToNat] at ho12;rw [← Ny233.out] at ho12));have n0_ := Aside0.mk (Kd.R_elder' (Kd.Rz HO232.out) (Kd.R_base ho12) hb);have n1_ := Aside0.mk (Kd.R_lower (Kd.R_new' ho12 (Kd.R_lt (Kd.Rz HO232.out))) (below_size bz));have n2_ := Aside0.mk (below_step bz hb);clear HO232;clear HB;have HO232 := n0_;have HO235 := n1_;have HB := n2_;clear n0_ n1_ n2_;clear hb ho12))
    go_ret
    exact ⟨_,by first|rfl|(simp [errW_none,errW_some] <;> rfl)|(simp [*,errW_none,errW_some] <;> rfl),by (with_reducible repeat (first|apply Kd.R_alloc|apply Kd.R_drewN|apply Kd.R_drew));exact Kd.R_mono HO235.out (fun _ hk => trivial),bz⟩
   ·rw [if_neg c8] at H
    have c8b0 : decide (60 < (t230.length : Int)) = false := decide_eq_false c8
    have c8b1 : decide (60 < t230.length) = false := decide_eq_false (by omega)
    clear c8
    replace H := Option.bind_eq_some_iff.mp H
    obtain ⟨t236,A130,H⟩ := H
    replace H : (some t236) = some r := H
    have A13 := Aside0.mk A130
    clear A130
    obtain rfl := Option.some.inj H
    go_enter Try.func14,Try.ntmps14
    go_wp2_with (first|((with_reducible refine gate_callee (f := 51) rfl ?_);refine goesL_ (some 6) rfl rfl Try.func51 (by kernel_rfl) rfl #[.int .i64 a0,.int .i64 0,.int .i64 1000000000] rfl az ?_;(with_reducible refine (spec_l1In.calls a0 0 1000000000 true _ A3.out).mono ?_);rintro e w' ⟨rfl,⟨nd,rfl⟩⟩;refine ⟨_,rfl,?_⟩)|(go_at_call 51;(with_reducible refine (spec_l1In.calls a1 2 90 true _ A5.out).mono ?_);rintro e w' ⟨rfl,⟨nd,rfl⟩⟩)|(go_at_call 52;(with_reducible refine (spec_l4Ord.calls k a0 a1 t230 _ A7.out).mono ?_);rintro e w14 ⟨v231,rfl,ho0,hb⟩;have n0_ := Aside0.mk (Kd.R_lower ho0 (below_size bz));have n1_ := Aside0.mk (below_step bz hb);clear HB;have HO232 := n0_;have HB := n1_;clear n0_ n1_;(try clear hb);(try clear hb2);(try clear hk);(try clear hi);(try clear ho0);obtain ⟨Ao15,co15,eo15⟩ := Kd.R_slice HO232.out;subst eo15)|((with_reducible refine gate_callee (f := 52) rfl ?_);refine goesL_ (some 23) rfl rfl Try.func52 (by kernel_rfl) rfl #[.int .i64 a0,.int .i64 a1] rfl az ?_;(with_reducible refine (spec_l4Ord.calls k a0 a1 t236 _ A13.out).mono ?_);rintro e w16 ⟨v237,rfl,ho0,hb⟩;refine ⟨_,rfl,?_⟩;have n0_ := Aside0.mk (Kd.R_elder' (Kd.Rz HO232.out) (Kd.R_base ho0) hb);have n1_ := Aside0.mk (Kd.R_lower (Kd.R_new' ho0 (Kd.R_lt (Kd.Rz HO232.out))) (below_size bz));have n2_ := Aside0.mk (below_step bz hb);clear HO232;clear HB;have HO232 := n0_;have HO238 := n1_;have HB := n2_;clear n0_ n1_ n2_;(try clear hb);(try clear hb2);(try clear hk);(try clear hi);(try clear ho0)))
    go_ret
    exact ⟨_,by first|rfl|(simp [errW_none,errW_some] <;> rfl)|(simp [*,errW_none,errW_some] <;> rfl),by (with_reducible repeat (first|apply Kd.R_alloc|apply Kd.R_drewN|apply Kd.R_drew));exact Kd.R_mono HO238.out (fun _ hk => trivial),bz⟩
  ·replace c6 := Bool.eq_false_iff.mpr c6
   subst c6
   have H1 : (some (([] : List Int))) = some r := by rw [if_neg (show ¬ (false = true) by decide)] at H;exact H
   clear H
   have H := H1
   clear H1
   obtain ⟨y239,hy239⟩ : ∃ y_ : List Int,y_ = (([] : List Int)) := ⟨_,rfl⟩
   replace H : (some y239) = some r := by first|(rw [hy239];with_reducible exact H)|(have H2_ := (Option.bind_some _ _).symm.trans H;rw [hy239];with_reducible exact H2_)|(have H2_ := (Option.bind_some _ _).symm.trans H;with_reducible exact H2_)|with_reducible exact H|(rw [hy239];exact H)|exact H
   have Ny239 := Aside0.mk hy239
   clear hy239
   obtain rfl := Option.some.inj H
   go_enter Try.func14,Try.ntmps14
   go_wp2_with (first|((with_reducible refine gate_callee (f := 51) rfl ?_);refine goesL_ (some 6) rfl rfl Try.func51 (by kernel_rfl) rfl #[.int .i64 a0,.int .i64 0,.int .i64 1000000000] rfl az ?_;(with_reducible refine (spec_l1In.calls a0 0 1000000000 true _ A3.out).mono ?_);rintro e w' ⟨rfl,⟨nd,rfl⟩⟩;refine ⟨_,rfl,?_⟩)|(go_at_call 51;(with_reducible refine (spec_l1In.calls a1 2 90 false _ A5.out).mono ?_);rintro e w' ⟨rfl,⟨nd,rfl⟩⟩)|((with_reducible refine gate_dst (N := 20) rfl ?_);refine Kd.R_lit (Kd.int .i64) _ 3 ?hg (N := 20) ?hd (xs := ([] : List Int)) (inner := []) (ok := fun _ => True) (okp := fun _ => True) ?hr ?hp (fun _ hk => hk) trivial (Below.refl _ _) (Nat.le_refl _) (by simp) ?_;(case hd => rfl);(case hg => rfl);(case hr => first|(go_simp;done)|(go_simp;rfl));(case hp => exact (Reps.none _ _));intro v240 w17 ho18 hb hg_ hnew_;clear hg_ hnew_;(first|rw [← Ny239.out] at ho18|(simp only [Int.reduceToNat] at ho18;rw [← Ny239.out] at ho18));have n0_ := Aside0.mk (Kd.R_lower ho18 (below_size bz));have n1_ := Aside0.mk (below_step bz hb);clear HB;have HO241 := n0_;have HB := n1_;clear n0_ n1_;clear hb ho18))
   go_ret
   exact ⟨_,by first|rfl|(simp [errW_none,errW_some] <;> rfl)|(simp [*,errW_none,errW_some] <;> rfl),by (with_reducible repeat (first|apply Kd.R_alloc|apply Kd.R_drewN|apply Kd.R_drew));exact HO241.out,bz⟩
 ·replace c4 := Bool.eq_false_iff.mpr c4
  subst c4
  have H1 : (some (([] : List Int))) = some r := by rw [if_neg (show ¬ (false = true) by decide)] at H;exact H
  clear H
  have H := H1
  clear H1
  obtain ⟨y242,hy242⟩ : ∃ y_ : List Int,y_ = (([] : List Int)) := ⟨_,rfl⟩
  replace H : (some y242) = some r := by first|(rw [hy242];with_reducible exact H)|(have H2_ := (Option.bind_some _ _).symm.trans H;rw [hy242];with_reducible exact H2_)|(have H2_ := (Option.bind_some _ _).symm.trans H;with_reducible exact H2_)|with_reducible exact H|(rw [hy242];exact H)|exact H
  have Ny242 := Aside0.mk hy242
  clear hy242
  obtain rfl := Option.some.inj H
  go_enter Try.func14,Try.ntmps14
  go_wp2_with (first|((with_reducible refine gate_callee (f := 51) rfl ?_);refine goesL_ (some 6) rfl rfl Try.func51 (by kernel_rfl) rfl #[.int .i64 a0,.int .i64 0,.int .i64 1000000000] rfl az ?_;(with_reducible refine (spec_l1In.calls a0 0 1000000000 false _ A3.out).mono ?_);rintro e w' ⟨rfl,⟨nd,rfl⟩⟩;refine ⟨_,rfl,?_⟩)|((with_reducible refine gate_dst (N := 20) rfl ?_);refine Kd.R_lit (Kd.int .i64) _ 3 ?hg (N := 20) ?hd (xs := ([] : List Int)) (inner := []) (ok := fun _ => True) (okp := fun _ => True) ?hr ?hp (fun _ hk => hk) trivial (Below.refl _ _) (Nat.le_refl _) (by simp) ?_;(case hd => rfl);(case hg => rfl);(case hr => first|(go_simp;done)|(go_simp;rfl));(case hp => exact (Reps.none _ _));intro v243 w19 ho20 hb hg_ hnew_;clear hg_ hnew_;(first|rw [← Ny242.out] at ho20|(simp only [Int.reduceToNat] at ho20;rw [← Ny242.out] at ho20));have n0_ := Aside0.mk (Kd.R_lower ho20 (below_size bz));have n1_ := Aside0.mk (below_step bz hb);clear HB;have HO244 := n0_;have HB := n1_;clear n0_ n1_;clear hb ho20))
  go_ret
  exact ⟨_,by first|rfl|(simp [errW_none,errW_some] <;> rfl)|(simp [*,errW_none,errW_some] <;> rfl),by (with_reducible repeat (first|apply Kd.R_alloc|apply Kd.R_drewN|apply Kd.R_drew));exact HO244.out,bz⟩

end Go.Proofs.Ytpgkpahhohfmhaa.P
