/- The walk of one Go function that the law reaches: it comes to what the Lean function of its name tells. -/
import Derived.Test.YtpgkpahhohfmhaaP0
import Derived.Test.YtpgkpahhohfmhaaPimplOrdInBase
import Derived.Test.YtpgkpahhohfmhaaPimplSlowValue
import Derived.Test.YtpgkpahhohfmhaaPimplordOf
import Derived.Lib.SliceRun
namespace Go.Proofs.Ytpgkpahhohfmhaa.P
open Go.RowKit Go.Proofs.YtpgkpahhohfmhaaW.PrintWords Go.Proofs.YtpgkpahhohfmhaaW.PrintLast Go.Proofs.YtpgkpahhohfmhaaW.PrintMore
attribute [local go_sem] max2_int min2_int max_two min_two max_three min_three max_four min_four   
set_option linter.unusedVariables false
set_option linter.unusedSimpArgs false

/-! ### impl_ChangeBase: function 28 (by hand) -/
def impl_ChangeBase.f (k : Nat) (a0 : Int) (a1 : Int) (a2 : Int) : Option Int := (impl_OrdInBase.f k a0 a1).bind fun t => if t.length = 0 then some (-1) else if a2 < 2 then some (-1) else if a2 > 90 then some (-1) else impl_SlowValue.f k t a2
theorem impl_ChangeBase.mono : ∀ a0 a1 a2 k,LeO (impl_ChangeBase.f k a0 a1 a2) (impl_ChangeBase.f (k + 1) a0 a1 a2) := by
 intro a0 a1 a2 k
 unfold impl_ChangeBase.f
 repeat' first|(with_reducible first|exact impl_OrdInBase.mono _ _ _|exact impl_SlowValue.mono _ _ _|exact LeO.refl _|refine LeO.ite ?_ ?_|refine LeO.bind ?_ (fun _ => ?_))
theorem impl_ChangeBase.eql (w : World) (a : Option Addr) (n c : Nat) : (binOp .eql 25 (.slice a n c) (.slice none 0 0)).run Try.prog w = .ok (.bool a.isNone) w := Go.Lib.run_eql_slice_nil w 25 3 a n c 0 0 Try.underlying25
theorem impl_ChangeBase.nil (k : Nat) (a2 : Int) : impl_SlowValue.f k [] a2 = some (-1) := by
 have h : impl_ordOf.f k [] = some ([],false) := by unfold impl_ordOf.f;rfl
 unfold impl_SlowValue.f
 rw [h];rfl
set_option maxHeartbeats 4000000 in
set_option maxRecDepth 100000 in
theorem impl_ChangeBase.calls (k : Nat) (a0 : Int) (a1 : Int) (a2 : Int) (r : Int) (w : World) (h : impl_ChangeBase.f k a0 a1 a2 = some r) :
  Calls Try.prog 28 #[.int .i64 a0,.int .i64 a1,.int .i64 a2] w fun e w' => e = .returned (.int .i64 r) ∧ Below w.heap.size w w' := by
 have HB := Aside0.mk (Below.refl w.heap.size w)
 obtain ⟨t_,AT0,H⟩ := Option.bind_eq_some_iff.mp h
 clear h
 have AT := Aside0.mk AT0
 clear AT0
 have AS : a2 < 2 ∨ a2 > 90 ∨ Aside0 (impl_SlowValue.f k t_ a2 = some r) := by
  by_cases h0 : t_.length = 0
  ·rw [if_pos h0] at H
   obtain rfl := List.eq_nil_of_length_eq_zero h0
   obtain rfl := Option.some.inj H
   exact .inr (.inr ⟨impl_ChangeBase.nil k a2⟩)
  ·rw [if_neg h0] at H
   by_cases h1 : a2 < 2
   ·exact .inl h1
   ·rw [if_neg h1] at H
    by_cases h2 : a2 > 90
    ·exact .inr (.inl h2)
    ·rw [if_neg h2] at H
     exact .inr (.inr ⟨H⟩)
 have NR : t_.length = 0 → r = -1 := by
  intro h0
  rw [if_pos h0] at H
  exact (Option.some.inj H).symm
 have BR : a2 < 2 ∨ a2 > 90 → r = -1 := by
  intro hb
  by_cases h0 : t_.length = 0
  ·exact NR h0
  ·rw [if_neg h0] at H
   by_cases h1 : a2 < 2
   ·rw [if_pos h1] at H;exact (Option.some.inj H).symm
   ·rw [if_neg h1] at H
    rw [if_pos (by omega)] at H;exact (Option.some.inj H).symm
 clear H
 have NR' := Aside0.mk NR
 have BR' := Aside0.mk BR
 clear NR BR
 have nz : ∀ (w' : World) (m c : Nat) (xs : List Int),Kd.C (Kd.int .i64) w' none xs.length xs → xs.length = 0 := by
  intro w' m c xs hC
  by_cases hl : 0 < xs.length
  ·obtain ⟨ad,hd,_⟩ := hC.2.2 hl
   cases hd
  ·omega
 have NZ := Aside0.mk nz
 clear nz
 by_cases b1 : a2 < 2
 ·have b1d : decide (a2 < 2) = true := decide_eq_true b1
  obtain rfl := BR'.out (.inl b1)
  go_enter Try.func28,Try.ntmps28
  go_wp2_with (first|((with_reducible refine gate_callee (f := 12) rfl ?_);refine goesL_ (some 10) rfl rfl Try.func12 (by kernel_rfl) rfl #[.int .i64 a0,.int .i64 a1] rfl az ?_;(with_reducible refine (impl_OrdInBase.calls k a0 a1 t_ _ AT.out).mono ?_);rintro e w1 ⟨v1_,rfl,ho,hb⟩;refine ⟨_,rfl,?_⟩;have n0_ := Aside0.mk (Kd.R_lower ho (below_size HB.out));have n1_ := Aside0.mk (below_step HB.out hb);clear HB;have HO := n0_;have HB := n1_;clear n0_ n1_;clear hb ho;obtain ⟨Ao,co,eo⟩ := Kd.R_slice HO.out;subst eo;have HR := Aside0.mk (Kd.R_reads' HO.out).2.2;have HC := Aside0.mk (Kd.R_reads' HO.out).2.1;have he := impl_ChangeBase.eql w1 Ao t_.length co;clear HO;cases Ao <;> simp only [Option.isNone_none,Option.isNone_some] at he))
  all_goals (go_ret;exact ⟨rfl,HB.out⟩)
 have b1d : decide (a2 < 2) = false := decide_eq_false b1
 by_cases b2 : a2 > 90
 ·have b2d : decide (90 < a2) = true := decide_eq_true b2
  obtain rfl := BR'.out (.inr b2)
  go_enter Try.func28,Try.ntmps28
  go_wp2_with (first|((with_reducible refine gate_callee (f := 12) rfl ?_);refine goesL_ (some 10) rfl rfl Try.func12 (by kernel_rfl) rfl #[.int .i64 a0,.int .i64 a1] rfl az ?_;(with_reducible refine (impl_OrdInBase.calls k a0 a1 t_ _ AT.out).mono ?_);rintro e w1 ⟨v1_,rfl,ho,hb⟩;refine ⟨_,rfl,?_⟩;have n0_ := Aside0.mk (Kd.R_lower ho (below_size HB.out));have n1_ := Aside0.mk (below_step HB.out hb);clear HB;have HO := n0_;have HB := n1_;clear n0_ n1_;clear hb ho;obtain ⟨Ao,co,eo⟩ := Kd.R_slice HO.out;subst eo;have HR := Aside0.mk (Kd.R_reads' HO.out).2.2;have HC := Aside0.mk (Kd.R_reads' HO.out).2.1;have he := impl_ChangeBase.eql w1 Ao t_.length co;clear HO;cases Ao <;> simp only [Option.isNone_none,Option.isNone_some] at he))
  all_goals (go_ret;exact ⟨rfl,HB.out⟩)
 have b2d : decide (90 < a2) = false := decide_eq_false b2
 replace AS : Aside0 (impl_SlowValue.f k t_ a2 = some r) := by
  rcases AS with h|h|h
  ·exact absurd h b1
  ·exact absurd h b2
  ·exact h
 go_enter Try.func28,Try.ntmps28
 go_wp2_with (first|((with_reducible refine gate_callee (f := 12) rfl ?_);refine goesL_ (some 10) rfl rfl Try.func12 (by kernel_rfl) rfl #[.int .i64 a0,.int .i64 a1] rfl az ?_;(with_reducible refine (impl_OrdInBase.calls k a0 a1 t_ _ AT.out).mono ?_);rintro e w1 ⟨v1_,rfl,ho,hb⟩;refine ⟨_,rfl,?_⟩;have n0_ := Aside0.mk (Kd.R_lower ho (below_size HB.out));have n1_ := Aside0.mk (below_step HB.out hb);clear HB;have HO := n0_;have HB := n1_;clear n0_ n1_;clear hb ho;obtain ⟨Ao,co,eo⟩ := Kd.R_slice HO.out;subst eo;have HR := Aside0.mk (Kd.R_reads' HO.out).2.2;have HC := Aside0.mk (Kd.R_reads' HO.out).2.1;have he := impl_ChangeBase.eql w1 Ao t_.length co;clear HO;cases Ao <;> simp only [Option.isNone_none,Option.isNone_some] at he)|((with_reducible refine gate_callee (f := 18) rfl ?_);(refine goesL_ (some 23) rfl rfl Try.func18 (by kernel_rfl) rfl #[.slice _ t_.length co,.int .i64 a2] rfl az ?_);(with_reducible refine (impl_SlowValue.calls k _ _ t_ a2 r _ ?side1 ?side2 AS.out).mono ?_);(case side1 => exact HR.out);(case side2 => exact HC.out);rintro e w2 ⟨rfl,hb⟩;refine ⟨_,rfl,?_⟩;have n1_ := Aside0.mk (below_step HB.out hb);clear HB;have HB := n1_;clear n1_;clear hb))
 all_goals go_ret
 all_goals first
  | exact ⟨rfl,HB.out⟩
  | (have hz := NR'.out (NZ.out w1 0 0 t_ HR.out);subst hz;exact ⟨rfl,HB.out⟩)

end Go.Proofs.Ytpgkpahhohfmhaa.P
