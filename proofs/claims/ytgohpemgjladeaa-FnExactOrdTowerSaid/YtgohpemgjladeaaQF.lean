/- Towers: the program's and the reference's are the same. -/
import Derived.Test.YtgohpemgjladeaaP0
import Derived.Test.YtgohpemgjladeaaMath
import Derived.Test.YtgohpemgjladeaaPspecOrdTower
import Derived.Test.YtgohpemgjladeaaPimplOrdTower
import Derived.Test.YtgohpemgjladeaaPimplpower
import Derived.Test.YtgohpemgjladeaaPimpltold
import Derived.Test.YtgohpemgjladeaaQN
namespace Go.Proofs.Ytgohpemgjladeaa.P
open OM Go.RowKit Go.Proofs.YtgohpemgjladeaaW.PrintWords Go.Proofs.YtgohpemgjladeaaW.PrintLast Go.Proofs.YtgohpemgjladeaaW.PrintMore
set_option linter.unusedVariables false
def tow : Nat → O
  | 0 => [⟨1, []⟩]
  | n + 1 => [⟨1, tow n⟩]
theorem tow_size (n : Nat) : size (tow n) = 2 * (n : Int) + 3 := by
  induction n with
  | zero => unfold tow; rw [size_cons, size_nil]; rfl
  | succ n ih => unfold tow; rw [size_cons, size_nil, ih]; simp only [Int.natCast_succ]; omega
theorem tow_most (n : Nat) : most (tow n) = 1 := by
  induction n with
  | zero => unfold tow; rw [most_cons, most_nil]; rfl
  | succ n ih => unfold tow; rw [most_cons, most_nil, ih]; rfl
theorem tow_NF (n : Nat) : NF (tow n) := by
  induction n with
  | zero => unfold tow; exact NF_cons.2 ⟨by omega, NF_nil, NF_nil, trivial⟩
  | succ n ih => unfold tow; exact NF_cons.2 ⟨by omega, ih, NF_nil, trivial⟩
theorem tow_row (n : Nat) : row (tow (n + 1)) = [1, 1] ++ row (tow n) := by
  rw [tow]; unfold row; rw [flat_cons, flat_nil]; simp [row]
def towv (a : Int) : List Int × Bool := if 0 ≤ a ∧ a ≤ 9 then (row (tow a.toNat), true) else ([], false)
theorem towv_length (a : Int) : ((towv a).1.length : Int) ≤ 60 := by
  unfold towv
  split
  · show ((row _).length : Int) ≤ 60
    rw [row_length, tow_size]; omega
  · simp
theorem specTower_l (n : Nat) (hn : n ≤ 100) : ∀ (d i : Nat), i + d = n → Tells (fun k => spec_OrdTower.l0 k (n : Int) (row (tow i)) (i : Int)) (row (tow n), true) := by
  intro d
  induction d with
  | zero =>
    intro i h
    have : i = n := by omega
    subst this
    refine Tells.step (fun k => by rw [spec_OrdTower.l0]) ?_
    exact Tells.neg (by omega) (Tells.now _)
  | succ d ih =>
    intro i h
    refine Tells.step (fun k => by rw [spec_OrdTower.l0]) ?_
    refine Tells.pos (by omega) ?_
    refine Tells.sbind ?_
    have h1 := row_length (tow i)
    rw [tow_size] at h1
    refine Tells.pos (by simp; omega) ?_
    rw [wrap_id (by omega) (by omega), ← tow_row]
    exact ih (i + 1) (by omega)
theorem specOrdTower_ev {a : Int} : Tells (fun k => spec_OrdTower.f k a) (towv a) := by
  refine Tells.bind (Tells.const (l1In_eq a 0 9)) ?_
  unfold towv
  by_cases h : 0 ≤ a ∧ a ≤ 9
  · refine Tells.pos (decide_eq_true h) ?_
    rw [if_pos h]
    have := specTower_l a.toNat (by omega) a.toNat 0 (by omega)
    rw [Int.toNat_of_nonneg h.1] at this
    have e : row (tow 0) = [1, 1, 0] := by unfold tow; rw [show [(⟨1, []⟩ : Tm)] = num 1 from rfl, row_num (by omega)]
    rw [e] at this
    exact this
  · refine Tells.neg (by simp; omega) ?_
    rw [if_neg h]; exact Tells.now _
theorem implTower_l (n : Nat) (hn : n ≤ 9) : ∀ (d i : Nat), i + d = n → Tells (fun k => impl_OrdTower.l0 k (tow i) (n : Int) (i : Int)) (row (tow n), true) := by
  intro d
  induction d with
  | zero =>
    intro i h
    have : i = n := by omega
    subst this
    refine Tells.step (fun k => by rw [impl_OrdTower.l0]) ?_
    refine Tells.neg (by omega) ?_
    have h1 := tow_size i
    refine Tells.bind (told_ev (by omega)) ?_
    unfold toldv
    rw [if_pos ⟨by omega, by rw [tow_most]; omega⟩]
    exact Tells.now _
  | succ d ih =>
    intro i h
    refine Tells.step (fun k => by rw [impl_OrdTower.l0]) ?_
    refine Tells.pos (by omega) ?_
    refine Tells.bind (Tells.const (rfl : impl_power.f (tow i) = some (tow (i + 1)))) ?_
    rw [wrap_id (by omega) (by omega)]
    exact ih (i + 1) (by omega)
theorem implOrdTower_ev {a : Int} : Tells (fun k => impl_OrdTower.f k a) (towv a) := by
  have bad : ¬ (0 ≤ a ∧ a ≤ 9) → Tells (fun k => impl_OrdTower.j0 k a true) (towv a) := by
    intro h
    refine Tells.step (fun k => by rw [impl_OrdTower.j0]) ?_
    unfold towv; rw [if_neg h]
    exact Tells.pos rfl (Tells.now _)
  by_cases h1 : a < 0
  · exact Tells.pos h1 (bad (by omega))
  · refine Tells.neg h1 ?_
    by_cases h2 : a > 9
    · rw [decide_eq_true h2]; exact bad (by omega)
    · rw [decide_eq_false h2]
      refine Tells.step (fun k => by rw [impl_OrdTower.j0]) ?_
      refine Tells.neg (by simp) ?_
      refine Tells.bind (Tells.const (number_eq 1)) ?_
      unfold towv; rw [if_pos (by omega)]
      have := implTower_l a.toNat (by omega) a.toNat 0 (by omega)
      rw [Int.toNat_of_nonneg (by omega)] at this
      exact this
end Go.Proofs.Ytgohpemgjladeaa.P
