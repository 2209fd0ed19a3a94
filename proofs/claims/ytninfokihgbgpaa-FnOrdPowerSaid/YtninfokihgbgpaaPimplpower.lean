/- The walk of one Go function that the law reaches: it comes to what the Lean function of its name tells. -/
import Derived.Test.YtninfokihgbgpaaP0
namespace Go.Proofs.Ytninfokihgbgpaa.P
open Go.RowKit Go.Proofs.YtninfokihgbgpaaW.PrintWords Go.Proofs.YtninfokihgbgpaaW.PrintLast Go.Proofs.YtninfokihgbgpaaW.PrintMore
attribute [local go_sem] max2_int min2_int max_two min_two max_three min_three max_four min_four   
set_option linter.unusedVariables false
set_option linter.unusedSimpArgs false

/-! ### impl_power: function 72 -/
def impl_power.f (l0 : List (S56)) : Option ((List (S56))) := some (([(⟨1,l0⟩ : S56)] : List (S56)))
set_option maxHeartbeats 8000000 in
set_option maxRecDepth 100000 in
theorem impl_power.calls (P0_ : Nat → Prop) (A0 : Option Addr) (c0 : Nat) (l0 : List (S56)) (r : List (S56)) (w : World) (hs0 : Kd.V k56 56 w w.heap.size (fun k_ => P0_ k_) (.slice A0 l0.length c0) l0) (h : impl_power.f l0 = some r) :
  Calls Try.prog 72 #[.slice A0 l0.length c0] w fun e w' => ∃ v0_ : Value,e = .returned (v0_) ∧ Kd.N k56 56 w' w.heap.size (fun k_ => (P0_ k_ ∨ w.heap.size ≤ k_)) v0_ r ∧ Below w.heap.size w w' := by
 have hu56 := Try.underlying56
 have HO0 := Aside0.mk (show Kd.V k56 56 w w.heap.size (fun k_ => (P0_ k_ ∨ w.heap.size ≤ k_)) (.slice A0 l0.length c0) l0 from Kd.V_mono hs0 (fun k_ hk => .inl hk))
 have HB := Aside0.mk (Below.refl w.heap.size w)
 have H : (some (([(⟨1,l0⟩ : S56)] : List (S56)))) = some r := h
 clear h
 obtain ⟨y809,hy809⟩ : ∃ y_ : List (S56),y_ = (([(⟨1,l0⟩ : S56)] : List (S56))) := ⟨_,rfl⟩
 replace H : (some y809) = some r := by first|(rw [hy809];with_reducible exact H)|(have H2_ := (Option.bind_some _ _).symm.trans H;rw [hy809];with_reducible exact H2_)|(have H2_ := (Option.bind_some _ _).symm.trans H;with_reducible exact H2_)|with_reducible exact H|(rw [hy809];exact H)|exact H
 have Ny809 := Aside0.mk hy809
 clear hy809
 obtain rfl := Option.some.inj H
 go_enter Try.func72,Try.ntmps72
 go_wp2_with (first|((with_reducible refine gate_dst (N := 5) rfl ?_);refine Kd.N_lit k56 _ 56 ?hg (N' := 5) ?hd (xs := ([(⟨1,l0⟩ : S56)] : List (S56))) (inner := [.int .i64 1,.slice A0 l0.length c0]) (ok := (fun k_ => (P0_ k_ ∨ w.heap.size ≤ k_))) (okp := (fun k_ => (P0_ k_ ∨ w.heap.size ≤ k_))) ?hr ?hp (fun _ hk => hk) ((show ∀ k_,w.heap.size ≤ k_ → (fun k_ => (P0_ k_ ∨ w.heap.size ≤ k_)) k_ from fun k_ hk => (.inr (Nat.le_trans (below_size bz) hk))) _ (Nat.le_refl _)) (Below.refl _ _) (Nat.le_refl _) (by simp) ?_;(case hd => rfl);(case hg => rfl);(case hr => first|(go_simp;done)|(go_simp;rfl));(case hp => exact (Reps.c2 (show Kd.FK k56 _ _ (⟨1,l0⟩ : S56) [.int .i64 1,.slice A0 l0.length c0] from (k56_mkF _ _ (⟨1,l0⟩ : S56) (Kd.V_reads' (Kd.V_mono (ok' := (fun k_ => (P0_ k_ ∨ w.heap.size ≤ k_))) (HO0.out) (fun k_ hk => hk))).2.1 (Kd.V_F (Kd.V_mono (ok' := (fun k_ => (P0_ k_ ∨ w.heap.size ≤ k_))) (HO0.out) (fun k_ hk => hk))))) (Reps.none _ _)));intro v810 w2 ho3 hb hg_ hnew_;clear hg_ hnew_;(first|rw [← Ny809.out] at ho3|(simp only [Int.reduceToNat] at ho3;rw [← Ny809.out] at ho3));have n0_ := Aside0.mk (Kd.V_elder' (Kd.Vz HO0.out) (Kd.N_base ho3) hb);have n1_ := Aside0.mk (Kd.N_lower ho3 (below_size bz));have n2_ := Aside0.mk (below_step bz hb);clear HO0;clear HB;have HO0 := n0_;have HO811 := n1_;have HB := n2_;clear n0_ n1_ n2_;clear hb ho3))
 go_ret
 exact ⟨_,by first|rfl|(simp [errW_none,errW_some] <;> rfl)|(simp [*,errW_none,errW_some] <;> rfl),by (with_reducible repeat (first|apply Kd.N_alloc|apply Kd.N_drewN|apply Kd.N_drew));exact HO811.out,bz⟩

end Go.Proofs.Ytninfokihgbgpaa.P
