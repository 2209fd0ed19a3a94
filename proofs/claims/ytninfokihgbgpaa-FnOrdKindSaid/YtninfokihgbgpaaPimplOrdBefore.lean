/- The walk of one Go function that the law reaches: it comes to what the Lean function of its name tells. -/
import Derived.Test.YtninfokihgbgpaaP0
import Derived.Test.YtninfokihgbgpaaPimplbefore
import Derived.Test.YtninfokihgbgpaaPimplkind
import Derived.Test.YtninfokihgbgpaaPimplordOf
import Derived.Test.YtninfokihgbgpaaPimpltold
namespace Go.Proofs.Ytninfokihgbgpaa.P
open Go.RowKit Go.Proofs.YtninfokihgbgpaaW.PrintWords Go.Proofs.YtninfokihgbgpaaW.PrintLast Go.Proofs.YtninfokihgbgpaaW.PrintMore
attribute [local go_sem] max2_int min2_int max_two min_two max_three min_three max_four min_four   
set_option linter.unusedVariables false
set_option linter.unusedSimpArgs false

/-! ### impl_OrdBefore: function 47 -/
def impl_OrdBefore.j0 : Nat → List (S56) → Bool → Option (List Int × Bool)
 | 0,_,_ => none
 | k + 1,x4,x17 => if x17 = true then (some (([] : List Int),false)) else ((impl_before.f x4).bind fun t973 => ((impl_told.f k t973).bind fun bt976 => (some (bt976.1,bt976.2))))
def impl_OrdBefore.f (k : Nat) (l0 : List Int) : Option (List Int × Bool) := (impl_ordOf.f k l0).bind fun bt968 => (if bt968.2 = true then ((impl_kind.f bt968.1).bind fun t972 => (impl_OrdBefore.j0 k bt968.1 (t972 != 1))) else (impl_OrdBefore.j0 k bt968.1 true))
theorem impl_OrdBefore.mono_l : ∀ k,(∀ y0 y1,LeO (impl_OrdBefore.j0 k y0 y1) (impl_OrdBefore.j0 (k + 1) y0 y1))
 | 0 => fun _ _ r h => by simp [impl_OrdBefore.j0] at h
 | k + 1 => by
  have ih0 := impl_OrdBefore.mono_l k
  ·intro y0 y1
   unfold impl_OrdBefore.j0
   repeat' first|(with_reducible first|exact ih0 _ _|exact impl_told.mono _ _|exact LeO.refl _|exact LeO.none _|refine LeO.ite ?_ ?_|refine LeO.bind ?_ (fun _ => ?_))|exact ih0 _ _|exact impl_told.mono _ _|exact LeO.none _|refine LeO.ite ?_ ?_|refine LeO.bind ?_ (fun _ => ?_)
theorem impl_OrdBefore.mono : ∀ a0 k,LeO (impl_OrdBefore.f k a0) (impl_OrdBefore.f (k + 1) a0) := by
 intro a0 k
 have ih0 := impl_OrdBefore.mono_l k
 unfold impl_OrdBefore.f
 repeat' first|(with_reducible first|exact ih0 _ _|exact impl_ordOf.mono _ _|exact LeO.refl _|exact LeO.none _|refine LeO.ite ?_ ?_|refine LeO.bind ?_ (fun _ => ?_))|exact ih0 _ _|exact impl_ordOf.mono _ _|exact LeO.none _|refine LeO.ite ?_ ?_|refine LeO.bind ?_ (fun _ => ?_)
set_option maxHeartbeats 8000000 in
set_option maxRecDepth 100000 in
theorem impl_OrdBefore.calls (k : Nat) (A0 : Option Addr) (c0 : Nat) (l0 : List Int) (r1 : List Int) (r2 : Bool) (w : World) (hr0 : Kd.C (Kd.int .i64) w A0 l0.length l0) (hc0 : l0.length ≤ c0) (h : impl_OrdBefore.f k l0 = some (r1,r2)) :
  Calls Try.prog 47 #[.slice A0 l0.length c0] w fun e w' => ∃ v0_ : Value,e = .returned (.tuple #[v0_,.bool r2]) ∧ Kd.R (Kd.int .i64) 3 w' w.heap.size (fun _ => True) v0_ r1 ∧ Below w.heap.size w w' := by
 have HR0 := Aside0.mk hr0
 have HC0 := Aside0.mk hc0
 clear hr0 hc0
 have HB := Aside0.mk (Below.refl w.heap.size w)
 have H : ((impl_ordOf.f k l0).bind fun bt968 => (if bt968.2 = true then ((impl_kind.f bt968.1).bind fun t972 => (impl_OrdBefore.j0 k bt968.1 (t972 != 1))) else (impl_OrdBefore.j0 k bt968.1 true))) = some (r1,r2) := h
 clear h
 replace H := Option.bind_eq_some_iff.mp H
 obtain ⟨⟨t968,t969⟩,A20,H⟩ := H
 replace H : (if t969 = true then ((impl_kind.f t968).bind fun t972 => (impl_OrdBefore.j0 k t968 (t972 != 1))) else (impl_OrdBefore.j0 k t968 true)) = some (r1,r2) := H
 have A2 := Aside0.mk A20
 clear A20
 have HC3 := Aside0.mk H
 clear H
 go_enter Try.func47,Try.ntmps47
 go_upto_region 2 with (first|((with_reducible refine gate_callee (f := 60) rfl ?_);refine goesL_ (some 8) rfl rfl Try.func60 (by kernel_rfl) rfl #[.slice A0 l0.length c0] rfl az ?_;(with_reducible refine (impl_ordOf.calls k _ _ l0 t968 t969 _ ?side1 ?side2 A2.out).mono ?_);(case side1 => exact Kd.Cz HR0.out);(case side2 => exact HC0.out);rintro e w4 ⟨v970,rfl,ho0,hb⟩;refine ⟨_,rfl,?_⟩;have n0_ := Aside0.mk (Kd.N_lower (Kd.N_mono (ok' := fun k_ => True) (Kd.R_N (Kd.R_bound ho0)) (fun k_ hk_ => trivial)) (below_size bz));have n1_ := Aside0.mk (below_step bz hb);clear HB;have HO971 := n0_;have HB := n1_;clear n0_ n1_;(try clear hb);(try clear hb2);(try clear hk);(try clear hi);(try clear ho0)))
 (try simp only [Act.put,List.setIfInBounds_toArray,List.set_cons_zero,List.set_cons_succ])
 go_cut [17] (fun v17 wc => ∃ (kq : Nat) (x17_2 : Bool),v17 = .bool x17_2 ∧ Aside0 (impl_OrdBefore.j0 kq t968 x17_2 = some (r1,r2)) ∧ Aside0 (kq ≤ k) ∧ Aside0 (Kd.N k56 56 wc w.heap.size (fun _ => True) v970 t968) ∧ Aside0 (Below w.heap.size w wc))
 case first =>
  have H := HC3.out
  clear HC3
  by_cases c5 : t969 = true
  ·subst c5
   have H1 : ((impl_kind.f t968).bind fun t972 => (impl_OrdBefore.j0 k t968 (t972 != 1))) = some (r1,r2) := by rw [if_pos rfl] at H;exact H
   clear H
   have H := H1
   clear H1
   replace H := Option.bind_eq_some_iff.mp H
   obtain ⟨t972,A60,H⟩ := H
   replace H : (impl_OrdBefore.j0 k t968 (t972 != 1)) = some (r1,r2) := H
   have A6 := Aside0.mk A60
   clear A60
   have H' := Aside0.mk H
   clear H
   obtain ⟨Ao7,co7,eo7⟩ := Kd.N_slice HO971.out
   subst eo7
   go_wp2_with (first|(go_at_call 74;(with_reducible refine (impl_kind.calls _ _ t968 t972 _ ?side1 ?side2 A6.out).mono ?_);(case side1 => exact Kd.Cz (Kd.N_reads' HO971.out).2.2);(case side2 => exact (Kd.N_reads' HO971.out).2.1);rintro e w' ⟨rfl,⟨nd,rfl⟩⟩))
   go_meet
   case rel => exact ⟨_,((t972 != 1)),(by first|rfl|(simp;done)|(simp [*];done)),H',⟨by first|omega|exact Nat.le_refl _⟩,⟨by (with_reducible repeat (first|apply Kd.N_alloc|apply Kd.N_drewN|apply Kd.N_drew));exact HO971.out⟩,⟨bz⟩⟩
  ·replace c5 := Bool.eq_false_iff.mpr c5
   subst c5
   have H1 : (impl_OrdBefore.j0 k t968 true) = some (r1,r2) := by rw [if_neg (show ¬ (false = true) by decide)] at H;exact H
   clear H
   have H := H1
   clear H1
   have H' := Aside0.mk H
   clear H
   go_wp2
   go_meet
   case rel => exact ⟨_,(true),(by first|rfl|(simp;done)|(simp [*];done)),H',⟨by first|omega|exact Nat.le_refl _⟩,⟨by (with_reducible repeat (first|apply Kd.N_alloc|apply Kd.N_drewN|apply Kd.N_drew));exact HO971.out⟩,⟨bz⟩⟩
 case rest =>
  clear HC3
  try clear p2
  try clear c4
  try clear c5
  try clear c6
  obtain ⟨kq,x17_2,rfl,HA,HJ2,HO_4,HB⟩ := hcut
  cases kq with
  | zero => exact absurd HA.out (by simp [impl_OrdBefore.j0])
  | succ kj2 =>
   have H := HA.out
   clear HA
   simp only [impl_OrdBefore.j0] at H
   by_cases c8 : x17_2 = true
   ·subst c8
    have H1 : (some (([] : List Int),false)) = some (r1,r2) := by rw [if_pos rfl] at H;exact H
    clear H
    have H := H1
    clear H1
    simp only [Option.some.injEq,Prod.mk.injEq] at H
    obtain ⟨rfl,rfl⟩ := H
    go_wp2
    go_ret2
    exact ⟨_,by first|rfl|(simp [errW_none,errW_some] <;> rfl)|(simp [*,errW_none,errW_some] <;> rfl),by first|exact Kd.R_nil _ _ _ _ _|exact Kd.N_nil _ _ _ _ _|exact Kd.V_nil _ _ _ _ _|exact Kd.Q_nil _ _ _ _ _|exact Kd.S_nil _ _ _ _ _,bz⟩
   ·replace c8 := Bool.eq_false_iff.mpr c8
    subst c8
    have H1 : ((impl_before.f t968).bind fun t973 => ((impl_told.f kj2 t973).bind fun bt976 => (some (bt976.1,bt976.2)))) = some (r1,r2) := by rw [if_neg (show ¬ (false = true) by decide)] at H;exact H
    clear H
    have H := H1
    clear H1
    replace H := Option.bind_eq_some_iff.mp H
    obtain ⟨t973,A90,H⟩ := H
    replace H : ((impl_told.f kj2 t973).bind fun bt976 => (some (bt976.1,bt976.2))) = some (r1,r2) := H
    have A9 := Aside0.mk A90
    clear A90
    replace H := Option.bind_eq_some_iff.mp H
    obtain ⟨⟨t976,t977⟩,A100,H⟩ := H
    replace H : (some (t976,t977)) = some (r1,r2) := H
    have A10 := Aside0.mk A100
    clear A100
    simp only [Option.some.injEq,Prod.mk.injEq] at H
    obtain ⟨rfl,rfl⟩ := H
    obtain ⟨Ao11,co11,eo11⟩ := Kd.N_slice HO_4.out
    subst eo11
    go_wp2_with (first|((with_reducible refine gate_callee (f := 75) rfl ?_);refine goesL_ (some 19) rfl rfl Try.func75 (by kernel_rfl) rfl #[.slice Ao11 t968.length co11] rfl az ?_;(with_reducible refine (impl_before.calls (fun k_ => True) _ _ t968 t973 _ ?side1 A9.out).mono ?_);(case side1 => exact Kd.N_V (HO_4.out));rintro e w12 ⟨v974,rfl,ho0,hb⟩;refine ⟨_,rfl,?_⟩;have n0_ := Aside0.mk (Kd.N_elder' (Kd.Nz HO_4.out) (Kd.N_base ho0) hb);have n1_ := Aside0.mk (Kd.N_lower (Kd.N_mono (ok' := fun k_ => True) ho0 (fun k_ hk_ => trivial)) (below_size bz));have n2_ := Aside0.mk (below_step bz hb);clear HO_4;clear HB;have HO_4 := n0_;have HO975 := n1_;have HB := n2_;clear n0_ n1_ n2_;(try clear hb);(try clear hb2);(try clear hk);(try clear hi);(try clear ho0);obtain ⟨Ao13,co13,eo13⟩ := Kd.N_slice HO975.out;subst eo13)|((with_reducible refine gate_callee (f := 61) rfl ?_);refine goesL_ (some 20) rfl rfl Try.func61 (by kernel_rfl) rfl #[.slice Ao13 t973.length co13] rfl az ?_;(with_reducible refine (impl_told.calls kj2 _ _ t973 t976 t977 _ ?side1 ?side2 A10.out).mono ?_);(case side1 => exact Kd.Cz (Kd.N_reads' HO975.out).2.2);(case side2 => exact (Kd.N_reads' HO975.out).2.1);rintro e w14 ⟨v978,rfl,ho0,hb⟩;refine ⟨_,rfl,?_⟩;have n0_ := Aside0.mk (Kd.N_elder' (Kd.Nz HO_4.out) (Kd.R_base ho0) hb);have n1_ := Aside0.mk (Kd.N_elder' (Kd.Nz HO975.out) (Kd.R_base ho0) hb);have n2_ := Aside0.mk (Kd.R_lower ho0 (below_size bz));have n3_ := Aside0.mk (below_step bz hb);clear HO_4;clear HO975;clear HB;have HO_4 := n0_;have HO975 := n1_;have HO979 := n2_;have HB := n3_;clear n0_ n1_ n2_ n3_;(try clear hb);(try clear hb2);(try clear hk);(try clear hi);(try clear ho0)))
    go_ret2
    exact ⟨_,by first|rfl|(simp [errW_none,errW_some] <;> rfl)|(simp [*,errW_none,errW_some] <;> rfl),by (with_reducible repeat (first|apply Kd.R_alloc|apply Kd.R_drewN|apply Kd.R_drew));exact HO979.out,bz⟩

end Go.Proofs.Ytninfokihgbgpaa.P
