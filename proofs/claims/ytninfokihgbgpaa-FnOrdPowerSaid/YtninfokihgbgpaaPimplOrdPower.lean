/- The walk of one Go function that the law reaches: it comes to what the Lean function of its name tells. -/
import Derived.Test.YtninfokihgbgpaaP0
import Derived.Test.YtninfokihgbgpaaPimplordOf
import Derived.Test.YtninfokihgbgpaaPimplpower
import Derived.Test.YtninfokihgbgpaaPimpltold
namespace Go.Proofs.Ytninfokihgbgpaa.P
open Go.RowKit Go.Proofs.YtninfokihgbgpaaW.PrintWords Go.Proofs.YtninfokihgbgpaaW.PrintLast Go.Proofs.YtninfokihgbgpaaW.PrintMore
attribute [local go_sem] max2_int min2_int max_two min_two max_three min_three max_four min_four   
set_option linter.unusedVariables false
set_option linter.unusedSimpArgs false

/-! ### impl_OrdPower: function 42 -/
def impl_OrdPower.f (k : Nat) (l0 : List Int) : Option (List Int × Bool) := (impl_ordOf.f k l0).bind fun bt902 => (if bt902.2 = true then ((impl_power.f bt902.1).bind fun t906 => ((impl_told.f k t906).bind fun bt909 => (some (bt909.1,bt909.2)))) else (some (([] : List Int),false)))
theorem impl_OrdPower.mono : ∀ a0 k,LeO (impl_OrdPower.f k a0) (impl_OrdPower.f (k + 1) a0) := by
 intro a0 k
 unfold impl_OrdPower.f
 repeat' first|(with_reducible first|exact impl_ordOf.mono _ _|exact impl_told.mono _ _|exact LeO.refl _|exact LeO.none _|refine LeO.ite ?_ ?_|refine LeO.bind ?_ (fun _ => ?_))|exact impl_ordOf.mono _ _|exact impl_told.mono _ _|exact LeO.none _|refine LeO.ite ?_ ?_|refine LeO.bind ?_ (fun _ => ?_)
set_option maxHeartbeats 8000000 in
set_option maxRecDepth 100000 in
theorem impl_OrdPower.calls (k : Nat) (A0 : Option Addr) (c0 : Nat) (l0 : List Int) (r1 : List Int) (r2 : Bool) (w : World) (hr0 : Kd.C (Kd.int .i64) w A0 l0.length l0) (hc0 : l0.length ≤ c0) (h : impl_OrdPower.f k l0 = some (r1,r2)) :
  Calls Try.prog 42 #[.slice A0 l0.length c0] w fun e w' => ∃ v0_ : Value,e = .returned (.tuple #[v0_,.bool r2]) ∧ Kd.R (Kd.int .i64) 3 w' w.heap.size (fun _ => True) v0_ r1 ∧ Below w.heap.size w w' := by
 have HR0 := Aside0.mk hr0
 have HC0 := Aside0.mk hc0
 clear hr0 hc0
 have HB := Aside0.mk (Below.refl w.heap.size w)
 have H : ((impl_ordOf.f k l0).bind fun bt902 => (if bt902.2 = true then ((impl_power.f bt902.1).bind fun t906 => ((impl_told.f k t906).bind fun bt909 => (some (bt909.1,bt909.2)))) else (some (([] : List Int),false)))) = some (r1,r2) := h
 clear h
 replace H := Option.bind_eq_some_iff.mp H
 obtain ⟨⟨t902,t903⟩,A20,H⟩ := H
 replace H : (if t903 = true then ((impl_power.f t902).bind fun t906 => ((impl_told.f k t906).bind fun bt909 => (some (bt909.1,bt909.2)))) else (some (([] : List Int),false))) = some (r1,r2) := H
 have A2 := Aside0.mk A20
 clear A20
 by_cases c3 : t903 = true
 ·subst c3
  have H1 : ((impl_power.f t902).bind fun t906 => ((impl_told.f k t906).bind fun bt909 => (some (bt909.1,bt909.2)))) = some (r1,r2) := by rw [if_pos rfl] at H;exact H
  clear H
  have H := H1
  clear H1
  replace H := Option.bind_eq_some_iff.mp H
  obtain ⟨t906,A40,H⟩ := H
  replace H : ((impl_told.f k t906).bind fun bt909 => (some (bt909.1,bt909.2))) = some (r1,r2) := H
  have A4 := Aside0.mk A40
  clear A40
  replace H := Option.bind_eq_some_iff.mp H
  obtain ⟨⟨t909,t910⟩,A50,H⟩ := H
  replace H : (some (t909,t910)) = some (r1,r2) := H
  have A5 := Aside0.mk A50
  clear A50
  simp only [Option.some.injEq,Prod.mk.injEq] at H
  obtain ⟨rfl,rfl⟩ := H
  go_enter Try.func42,Try.ntmps42
  go_wp2_with (first|((with_reducible refine gate_callee (f := 60) rfl ?_);refine goesL_ (some 8) rfl rfl Try.func60 (by kernel_rfl) rfl #[.slice A0 l0.length c0] rfl az ?_;(with_reducible refine (impl_ordOf.calls k _ _ l0 t902 true _ ?side1 ?side2 A2.out).mono ?_);(case side1 => exact Kd.Cz HR0.out);(case side2 => exact HC0.out);rintro e w6 ⟨v904,rfl,ho0,hb⟩;refine ⟨_,rfl,?_⟩;have n0_ := Aside0.mk (Kd.N_lower (Kd.N_mono (ok' := fun k_ => True) (Kd.R_N (Kd.R_bound ho0)) (fun k_ hk_ => trivial)) (below_size bz));have n1_ := Aside0.mk (below_step bz hb);clear HB;have HO905 := n0_;have HB := n1_;clear n0_ n1_;(try clear hb);(try clear hb2);(try clear hk);(try clear hi);(try clear ho0);obtain ⟨Ao7,co7,eo7⟩ := Kd.N_slice HO905.out;subst eo7)|((with_reducible refine gate_callee (f := 72) rfl ?_);refine goesL_ (some 14) rfl rfl Try.func72 (by kernel_rfl) rfl #[.slice Ao7 t902.length co7] rfl az ?_;(with_reducible refine (impl_power.calls (fun k_ => True) _ _ t902 t906 _ ?side1 A4.out).mono ?_);(case side1 => exact Kd.N_V (HO905.out));rintro e w8 ⟨v907,rfl,ho0,hb⟩;refine ⟨_,rfl,?_⟩;have n0_ := Aside0.mk (Kd.N_elder' (Kd.Nz HO905.out) (by first|exact Kd.N_base ho0|exact Kd.R_base ho0) hb);have n1_ := Aside0.mk (Kd.N_lower (Kd.N_mono (ok' := fun k_ => True) ho0 (fun k_ hk_ => trivial)) (below_size bz));have n2_ := Aside0.mk (below_step bz hb);clear HO905;clear HB;have HO905 := n0_;have HO908 := n1_;have HB := n2_;clear n0_ n1_ n2_;(try clear hb);(try clear hb2);(try clear hk);(try clear hi);(try clear ho0);obtain ⟨Ao9,co9,eo9⟩ := Kd.N_slice HO908.out;subst eo9)|((with_reducible refine gate_callee (f := 61) rfl ?_);refine goesL_ (some 15) rfl rfl Try.func61 (by kernel_rfl) rfl #[.slice Ao9 t906.length co9] rfl az ?_;(with_reducible refine (impl_told.calls k _ _ t906 t909 t910 _ ?side1 ?side2 A5.out).mono ?_);(case side1 => exact Kd.Cz (Kd.N_reads' HO908.out).2.2);(case side2 => exact (Kd.N_reads' HO908.out).2.1);rintro e w10 ⟨v911,rfl,ho0,hb⟩;refine ⟨_,rfl,?_⟩;have n0_ := Aside0.mk (Kd.N_elder' (Kd.Nz HO905.out) (Kd.R_base ho0) hb);have n1_ := Aside0.mk (Kd.N_elder' (Kd.Nz HO908.out) (Kd.R_base ho0) hb);have n2_ := Aside0.mk (Kd.R_lower ho0 (below_size bz));have n3_ := Aside0.mk (below_step bz hb);clear HO905;clear HO908;clear HB;have HO905 := n0_;have HO908 := n1_;have HO912 := n2_;have HB := n3_;clear n0_ n1_ n2_ n3_;(try clear hb);(try clear hb2);(try clear hk);(try clear hi);(try clear ho0)))
  go_ret2
  exact ⟨_,by first|rfl|(simp [errW_none,errW_some] <;> rfl)|(simp [*,errW_none,errW_some] <;> rfl),by (with_reducible repeat (first|apply Kd.R_alloc|apply Kd.R_drewN|apply Kd.R_drew));exact HO912.out,bz⟩
 ·replace c3 := Bool.eq_false_iff.mpr c3
  subst c3
  have H1 : (some (([] : List Int),false)) = some (r1,r2) := by rw [if_neg (show ¬ (false = true) by decide)] at H;exact H
  clear H
  have H := H1
  clear H1
  simp only [Option.some.injEq,Prod.mk.injEq] at H
  obtain ⟨rfl,rfl⟩ := H
  go_enter Try.func42,Try.ntmps42
  go_wp2_with (first|((with_reducible refine gate_callee (f := 60) rfl ?_);refine goesL_ (some 8) rfl rfl Try.func60 (by kernel_rfl) rfl #[.slice A0 l0.length c0] rfl az ?_;(with_reducible refine (impl_ordOf.calls k _ _ l0 t902 false _ ?side1 ?side2 A2.out).mono ?_);(case side1 => exact Kd.Cz HR0.out);(case side2 => exact HC0.out);rintro e w11 ⟨v904,rfl,ho0,hb⟩;refine ⟨_,rfl,?_⟩;have n0_ := Aside0.mk (Kd.N_lower (Kd.N_mono (ok' := fun k_ => True) (Kd.R_N (Kd.R_bound ho0)) (fun k_ hk_ => trivial)) (below_size bz));have n1_ := Aside0.mk (below_step bz hb);clear HB;have HO905 := n0_;have HB := n1_;clear n0_ n1_;(try clear hb);(try clear hb2);(try clear hk);(try clear hi);(try clear ho0)))
  go_ret2
  exact ⟨_,by first|rfl|(simp [errW_none,errW_some] <;> rfl)|(simp [*,errW_none,errW_some] <;> rfl),by first|exact Kd.R_nil _ _ _ _ _|exact Kd.N_nil _ _ _ _ _|exact Kd.V_nil _ _ _ _ _|exact Kd.Q_nil _ _ _ _ _|exact Kd.S_nil _ _ _ _ _,bz⟩

end Go.Proofs.Ytninfokihgbgpaa.P
