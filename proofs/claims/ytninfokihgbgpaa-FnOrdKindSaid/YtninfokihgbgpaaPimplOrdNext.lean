/- The walk of one Go function that the law reaches: it comes to what the Lean function of its name tells. -/
import Derived.Test.YtninfokihgbgpaaP0
import Derived.Test.YtninfokihgbgpaaPimpladd
import Derived.Test.YtninfokihgbgpaaPimplnumber
import Derived.Test.YtninfokihgbgpaaPimplordOf
import Derived.Test.YtninfokihgbgpaaPimpltold
namespace Go.Proofs.Ytninfokihgbgpaa.P
open Go.RowKit Go.Proofs.YtninfokihgbgpaaW.PrintWords Go.Proofs.YtninfokihgbgpaaW.PrintLast Go.Proofs.YtninfokihgbgpaaW.PrintMore
attribute [local go_sem] max2_int min2_int max_two min_two max_three min_three max_four min_four   
set_option linter.unusedVariables false
set_option linter.unusedSimpArgs false

/-! ### impl_OrdNext: function 20 -/
def impl_OrdNext.f (k : Nat) (l0 : List Int) : Option (List Int × Bool) := (impl_ordOf.f k l0).bind fun bt244 => (if bt244.2 = true then ((impl_number.f 1).bind fun t248 => ((impl_add.f k bt244.1 t248).bind fun t251 => ((impl_told.f k t251).bind fun bt254 => (some (bt254.1,bt254.2))))) else (some (([] : List Int),false)))
theorem impl_OrdNext.mono : ∀ a0 k,LeO (impl_OrdNext.f k a0) (impl_OrdNext.f (k + 1) a0) := by
 intro a0 k
 unfold impl_OrdNext.f
 repeat' first|(with_reducible first|exact impl_add.mono _ _ _|exact impl_ordOf.mono _ _|exact impl_told.mono _ _|exact LeO.refl _|exact LeO.none _|refine LeO.ite ?_ ?_|refine LeO.bind ?_ (fun _ => ?_))|exact impl_add.mono _ _ _|exact impl_ordOf.mono _ _|exact impl_told.mono _ _|exact LeO.none _|refine LeO.ite ?_ ?_|refine LeO.bind ?_ (fun _ => ?_)
set_option maxHeartbeats 8000000 in
set_option maxRecDepth 100000 in
theorem impl_OrdNext.calls (k : Nat) (A0 : Option Addr) (c0 : Nat) (l0 : List Int) (r1 : List Int) (r2 : Bool) (w : World) (hr0 : Kd.C (Kd.int .i64) w A0 l0.length l0) (hc0 : l0.length ≤ c0) (h : impl_OrdNext.f k l0 = some (r1,r2)) :
  Calls Try.prog 20 #[.slice A0 l0.length c0] w fun e w' => ∃ v0_ : Value,e = .returned (.tuple #[v0_,.bool r2]) ∧ Kd.R (Kd.int .i64) 3 w' w.heap.size (fun _ => True) v0_ r1 ∧ Below w.heap.size w w' := by
 have HR0 := Aside0.mk hr0
 have HC0 := Aside0.mk hc0
 clear hr0 hc0
 have HB := Aside0.mk (Below.refl w.heap.size w)
 have H : ((impl_ordOf.f k l0).bind fun bt244 => (if bt244.2 = true then ((impl_number.f 1).bind fun t248 => ((impl_add.f k bt244.1 t248).bind fun t251 => ((impl_told.f k t251).bind fun bt254 => (some (bt254.1,bt254.2))))) else (some (([] : List Int),false)))) = some (r1,r2) := h
 clear h
 replace H := Option.bind_eq_some_iff.mp H
 obtain ⟨⟨t244,t245⟩,A20,H⟩ := H
 replace H : (if t245 = true then ((impl_number.f 1).bind fun t248 => ((impl_add.f k t244 t248).bind fun t251 => ((impl_told.f k t251).bind fun bt254 => (some (bt254.1,bt254.2))))) else (some (([] : List Int),false))) = some (r1,r2) := H
 have A2 := Aside0.mk A20
 clear A20
 by_cases c3 : t245 = true
 ·subst c3
  have H1 : ((impl_number.f 1).bind fun t248 => ((impl_add.f k t244 t248).bind fun t251 => ((impl_told.f k t251).bind fun bt254 => (some (bt254.1,bt254.2))))) = some (r1,r2) := by rw [if_pos rfl] at H;exact H
  clear H
  have H := H1
  clear H1
  replace H := Option.bind_eq_some_iff.mp H
  obtain ⟨t248,A40,H⟩ := H
  replace H : ((impl_add.f k t244 t248).bind fun t251 => ((impl_told.f k t251).bind fun bt254 => (some (bt254.1,bt254.2)))) = some (r1,r2) := H
  have A4 := Aside0.mk A40
  clear A40
  replace H := Option.bind_eq_some_iff.mp H
  obtain ⟨t251,A50,H⟩ := H
  replace H : ((impl_told.f k t251).bind fun bt254 => (some (bt254.1,bt254.2))) = some (r1,r2) := H
  have A5 := Aside0.mk A50
  clear A50
  replace H := Option.bind_eq_some_iff.mp H
  obtain ⟨⟨t254,t255⟩,A60,H⟩ := H
  replace H : (some (t254,t255)) = some (r1,r2) := H
  have A6 := Aside0.mk A60
  clear A60
  simp only [Option.some.injEq,Prod.mk.injEq] at H
  obtain ⟨rfl,rfl⟩ := H
  go_enter Try.func20,Try.ntmps20
  go_wp2_with (first|((with_reducible refine gate_callee (f := 60) rfl ?_);refine goesL_ (some 8) rfl rfl Try.func60 (by kernel_rfl) rfl #[.slice A0 l0.length c0] rfl az ?_;(with_reducible refine (impl_ordOf.calls k _ _ l0 t244 true _ ?side1 ?side2 A2.out).mono ?_);(case side1 => exact Kd.Cz HR0.out);(case side2 => exact HC0.out);rintro e w7 ⟨v246,rfl,ho0,hb⟩;refine ⟨_,rfl,?_⟩;have n0_ := Aside0.mk (Kd.R_lower ho0 (below_size bz));have n1_ := Aside0.mk (below_step bz hb);clear HB;have HO247 := n0_;have HB := n1_;clear n0_ n1_;(try clear hb);(try clear hb2);(try clear hk);(try clear hi);(try clear ho0))|((with_reducible refine gate_callee (f := 58) rfl ?_);refine goesL_ (some 14) rfl rfl Try.func58 (by kernel_rfl) rfl #[.int .i64 1] rfl az ?_;(with_reducible refine (impl_number.calls 1 t248 _ A4.out).mono ?_);rintro e w8 ⟨v249,rfl,ho0,hb⟩;refine ⟨_,rfl,?_⟩;have n0_ := Aside0.mk (Kd.R_elder' (Kd.Rz HO247.out) (Kd.R_base ho0) hb);have n1_ := Aside0.mk (Kd.R_lower (Kd.R_new' ho0 (Kd.R_lt (Kd.Rz HO247.out))) (below_size bz));have n2_ := Aside0.mk (below_step bz hb);clear HO247;clear HB;have HO247 := n0_;have HO250 := n1_;have HB := n2_;clear n0_ n1_ n2_;(try clear hb);(try clear hb2);(try clear hk);(try clear hi);(try clear ho0);obtain ⟨Ao9,co9,eo9⟩ := Kd.R_slice HO247.out;subst eo9;obtain ⟨Ao10,co10,eo10⟩ := Kd.R_slice HO250.out;subst eo10)|((with_reducible refine gate_callee (f := 62) rfl ?_);refine goesL_ (some 15) rfl rfl Try.func62 (by kernel_rfl) rfl #[.slice Ao9 t244.length co9,.slice Ao10 t248.length co10] rfl az ?_;(with_reducible refine (impl_add.calls k (fun k_ => (True ∧ some k_ ≠ (.slice Ao10 t248.length co10 : Value).ownBlock)) _ _ t244 (fun k_ => (True ∧ some k_ ≠ (.slice Ao9 t244.length co9 : Value).ownBlock)) _ _ t248 t251 _ ?side1 ?side2 A5.out).mono ?_);(case side1 => exact Kd.R_V (HO247.out));(case side2 => exact Kd.R_V (HO250.out));rintro e w11 ⟨v252,rfl,ho0,hb⟩;refine ⟨_,rfl,?_⟩;have n0_ := Aside0.mk (Kd.R_below (Kd.Rz HO247.out) hb);have n1_ := Aside0.mk (Kd.R_below (Kd.Rz HO250.out) hb);have n2_ := Aside0.mk (Kd.V_lower (Kd.V_mono (ok' := fun k_ => True) ho0 (fun k_ hk_ => trivial)) (below_size bz));have n3_ := Aside0.mk (below_step bz hb);clear HO247;clear HO250;clear HB;have HO247 := n0_;have HO250 := n1_;have HO253 := n2_;have HB := n3_;clear n0_ n1_ n2_ n3_;(try clear hb);(try clear hb2);(try clear hk);(try clear hi);(try clear ho0);obtain ⟨Ao12,co12,eo12⟩ := Kd.V_slice HO253.out;subst eo12)|((with_reducible refine gate_callee (f := 61) rfl ?_);refine goesL_ (some 16) rfl rfl Try.func61 (by kernel_rfl) rfl #[.slice Ao12 t251.length co12] rfl az ?_;(with_reducible refine (impl_told.calls k _ _ t251 t254 t255 _ ?side1 ?side2 A6.out).mono ?_);(case side1 => exact Kd.Cz (Kd.V_reads' HO253.out).2.2);(case side2 => exact (Kd.V_reads' HO253.out).2.1);rintro e w13 ⟨v256,rfl,ho0,hb⟩;refine ⟨_,rfl,?_⟩;have n0_ := Aside0.mk (Kd.R_below (Kd.Rz HO247.out) hb);have n1_ := Aside0.mk (Kd.R_below (Kd.Rz HO250.out) hb);have n2_ := Aside0.mk (Kd.V_elder' (Kd.Vz HO253.out) (Kd.R_base ho0) hb);have n3_ := Aside0.mk (Kd.R_lower ho0 (below_size bz));have n4_ := Aside0.mk (below_step bz hb);clear HO247;clear HO250;clear HO253;clear HB;have HO247 := n0_;have HO250 := n1_;have HO253 := n2_;have HO257 := n3_;have HB := n4_;clear n0_ n1_ n2_ n3_ n4_;(try clear hb);(try clear hb2);(try clear hk);(try clear hi);(try clear ho0)))
  go_ret2
  exact ⟨_,by first|rfl|(simp [errW_none,errW_some] <;> rfl)|(simp [*,errW_none,errW_some] <;> rfl),by (with_reducible repeat (first|apply Kd.R_alloc|apply Kd.R_drewN|apply Kd.R_drew));exact HO257.out,bz⟩
 ·replace c3 := Bool.eq_false_iff.mpr c3
  subst c3
  have H1 : (some (([] : List Int),false)) = some (r1,r2) := by rw [if_neg (show ¬ (false = true) by decide)] at H;exact H
  clear H
  have H := H1
  clear H1
  simp only [Option.some.injEq,Prod.mk.injEq] at H
  obtain ⟨rfl,rfl⟩ := H
  go_enter Try.func20,Try.ntmps20
  go_wp2_with (first|((with_reducible refine gate_callee (f := 60) rfl ?_);refine goesL_ (some 8) rfl rfl Try.func60 (by kernel_rfl) rfl #[.slice A0 l0.length c0] rfl az ?_;(with_reducible refine (impl_ordOf.calls k _ _ l0 t244 false _ ?side1 ?side2 A2.out).mono ?_);(case side1 => exact Kd.Cz HR0.out);(case side2 => exact HC0.out);rintro e w14 ⟨v246,rfl,ho0,hb⟩;refine ⟨_,rfl,?_⟩;have n0_ := Aside0.mk (Kd.R_lower ho0 (below_size bz));have n1_ := Aside0.mk (below_step bz hb);clear HB;have HO247 := n0_;have HB := n1_;clear n0_ n1_;(try clear hb);(try clear hb2);(try clear hk);(try clear hi);(try clear ho0)))
  go_ret2
  exact ⟨_,by first|rfl|(simp [errW_none,errW_some] <;> rfl)|(simp [*,errW_none,errW_some] <;> rfl),by first|exact Kd.R_nil _ _ _ _ _|exact Kd.N_nil _ _ _ _ _|exact Kd.V_nil _ _ _ _ _|exact Kd.Q_nil _ _ _ _ _|exact Kd.S_nil _ _ _ _ _,bz⟩

end Go.Proofs.Ytninfokihgbgpaa.P
