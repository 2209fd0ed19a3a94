/- How many steps down an ordinal makes, as both tell it. -/
import Derived.Test.YtogaeadigmgcoaaP0
import Derived.Test.YtogaeadigmgcoaaMath
import Derived.Test.YtogaeadigmgcoaaPspecStepsDown
import Derived.Test.YtogaeadigmgcoaaPimplStepsDown
import Derived.Test.YtogaeadigmgcoaaQZ
namespace Go.Proofs.Ytogaeadigmgcoaa.P
open OM Go.RowKit Go.Proofs.YtogaeadigmgcoaaW.PrintWords Go.Proofs.YtogaeadigmgcoaaW.PrintLast Go.Proofs.YtogaeadigmgcoaaW.PrintMore
set_option linter.unusedVariables false

/-- m more steps may be counted -/
def down (n : Int) : Nat → O → Int → Int → Int × Int
  | 0, x, s, o => if x = [] then (s, o) else (-1, -1)
  | m + 1, x, s, o => if x = [] then (s, o) else if size (OM.step n x) ≤ 60 ∧ most (OM.step n x) ≤ 9999 then down n m (OM.step n x) (s + 1) (if kind x = 1 then o + 1 else o) else (-1, -1)
theorem step_Vd {n : Int} {x : O} (h : Vd x) (g : size (OM.step n x) ≤ 60 ∧ most (OM.step n x) ≤ 9999) : Vd (OM.step n x) := ⟨step_NF h.1, g.2, g.1⟩
theorem specDown_l {n : Int} (hn : 0 ≤ n ∧ n ≤ 99) : ∀ (m : Nat) (x : O) (s o : Int), s + m = 3000 → 0 ≤ s → 0 ≤ o → o ≤ s → Vd x → Tells (fun k => spec_StepsDown.l0 k (row x) n o s) (down n m x s o) := by
  intro m
  induction m with
  | zero =>
    intro x s o h1 h2 h3 h4 hx
    refine Tells.step (fun k => by rw [spec_StepsDown.l0]) ?_
    refine Tells.pos (by omega) ?_
    unfold down
    by_cases hz : x = []
    · rw [if_pos hz]
      exact Tells.pos (row_one.2 hz) (Tells.now _)
    · rw [if_neg hz]
      refine Tells.neg (fun h => hz (row_one.1 h)) ?_
      have ho := ordOf_row hx
      have after : ∀ o', Tells (fun k => spec_StepsDown.l0 k (toldv (OM.step n x)).1 n o' (wrap64 (s + 1))) (-1, -1) := by
        intro o'
        refine Tells.step (fun k => by rw [spec_StepsDown.l0]) ?_
        rw [wrap_id (by omega) (by omega)]
        exact Tells.neg (by omega) (Tells.now _)
      refine Tells.bind (specKind_ev ho) ?_
      by_cases hk : kind x = 1
      · refine Tells.pos hk ?_
        refine Tells.bind (specStep_ev ho hn) ?_
        by_cases g : size (OM.step n x) ≤ 60 ∧ most (OM.step n x) ≤ 9999
        · exact Tells.pos (by rw [toldv_true g]) (after _)
        · exact Tells.neg (by rw [toldv_false g]; simp) (Tells.now _)
      · refine Tells.neg hk ?_
        refine Tells.bind (specStep_ev ho hn) ?_
        by_cases g : size (OM.step n x) ≤ 60 ∧ most (OM.step n x) ≤ 9999
        · exact Tells.pos (by rw [toldv_true g]) (after _)
        · exact Tells.neg (by rw [toldv_false g]; simp) (Tells.now _)
  | succ m ih =>
    intro x s o h1 h2 h3 h4 hx
    refine Tells.step (fun k => by rw [spec_StepsDown.l0]) ?_
    refine Tells.pos (by omega) ?_
    unfold down
    by_cases hz : x = []
    · rw [if_pos hz]
      exact Tells.pos (row_one.2 hz) (Tells.now _)
    · rw [if_neg hz]
      refine Tells.neg (fun h => hz (row_one.1 h)) ?_
      have ho := ordOf_row hx
      refine Tells.bind (specKind_ev ho) ?_
      rw [wrap_id (i := o + 1) (by omega) (by omega), wrap_id (i := s + 1) (by omega) (by omega)]
      by_cases g : size (OM.step n x) ≤ 60 ∧ most (OM.step n x) ≤ 9999
      · rw [if_pos g]
        by_cases hk : kind x = 1
        · refine Tells.pos hk ?_
          refine Tells.bind (specStep_ev ho hn) ?_
          rw [toldv_true g, if_pos hk]
          exact Tells.pos rfl (ih (OM.step n x) (s + 1) (o + 1) (by omega) (by omega) (by omega) (by omega) (step_Vd hx g))
        · refine Tells.neg hk ?_
          refine Tells.bind (specStep_ev ho hn) ?_
          rw [toldv_true g, if_neg hk]
          exact Tells.pos rfl (ih (OM.step n x) (s + 1) o (by omega) (by omega) (by omega) (by omega) (step_Vd hx g))
      · rw [if_neg g]
        by_cases hk : kind x = 1
        · refine Tells.pos hk ?_
          refine Tells.bind (specStep_ev ho hn) ?_
          exact Tells.neg (by rw [toldv_false g]; simp) (Tells.now _)
        · refine Tells.neg hk ?_
          refine Tells.bind (specStep_ev ho hn) ?_
          exact Tells.neg (by rw [toldv_false g]; simp) (Tells.now _)
theorem implDown_l {n : Int} (hn : 0 ≤ n ∧ n ≤ 99) : ∀ (m : Nat) (x : O) (s o : Int), s + m = 3000 → 0 ≤ s → 0 ≤ o → o ≤ s → Vd x → Tells (fun k => impl_StepsDown.l0 k n x s o) (down n m x s o) := by
  intro m
  induction m with
  | zero =>
    intro x s o h1 h2 h3 h4 hx
    have hz0 := hx.size
    refine Tells.step (fun k => by rw [impl_StepsDown.l0]) ?_
    unfold down
    by_cases hz : x = []
    · rw [if_pos hz]
      exact Tells.neg (by rw [hz]; simp) (Tells.now _)
    · rw [if_neg hz]
      refine Tells.pos (by have := List.length_pos_iff.2 hz; omega) ?_
      refine Tells.bind (Tells.const (implKind_eq (by omega))) ?_
      have h5 := @size_stepV n x hx
      have after : ∀ o', Tells (fun k => impl_StepsDown.j2 k n x s o') (-1, -1) := by
        intro o'
        refine Tells.step (fun k => by rw [impl_StepsDown.j2]) ?_
        refine Tells.bind (implStep_ev hn.1 hx) ?_
        refine Tells.bind (told_ev (by omega)) ?_
        by_cases g : size (OM.step n x) ≤ 60 ∧ most (OM.step n x) ≤ 9999
        · refine Tells.pos (by rw [toldv_true g]) ?_
          rw [wrap_id (i := s + 1) (by omega) (by omega)]
          exact Tells.pos (by omega) (Tells.now _)
        · exact Tells.neg (by rw [toldv_false g]; simp) (Tells.now _)
      by_cases hk : kind x = 1
      · exact Tells.pos hk (after _)
      · exact Tells.neg hk (after _)
  | succ m ih =>
    intro x s o h1 h2 h3 h4 hx
    have hz0 := hx.size
    refine Tells.step (fun k => by rw [impl_StepsDown.l0]) ?_
    unfold down
    by_cases hz : x = []
    · rw [if_pos hz]
      exact Tells.neg (by rw [hz]; simp) (Tells.now _)
    · rw [if_neg hz]
      refine Tells.pos (by have := List.length_pos_iff.2 hz; omega) ?_
      refine Tells.bind (Tells.const (implKind_eq (by omega))) ?_
      have h5 := @size_stepV n x hx
      rw [wrap_id (i := o + 1) (by omega) (by omega)]
      have after : ∀ o', 0 ≤ o' → o' ≤ s + 1 → Tells (fun k => impl_StepsDown.j2 k n x s o') (if size (OM.step n x) ≤ 60 ∧ most (OM.step n x) ≤ 9999 then down n m (OM.step n x) (s + 1) o' else (-1, -1)) := by
        intro o' p1 p2
        refine Tells.step (fun k => by rw [impl_StepsDown.j2]) ?_
        refine Tells.bind (implStep_ev hn.1 hx) ?_
        refine Tells.bind (told_ev (by omega)) ?_
        by_cases g : size (OM.step n x) ≤ 60 ∧ most (OM.step n x) ≤ 9999
        · rw [if_pos g]
          refine Tells.pos (by rw [toldv_true g]) ?_
          rw [wrap_id (i := s + 1) (by omega) (by omega)]
          refine Tells.neg (by omega) ?_
          exact ih (OM.step n x) (s + 1) o' (by omega) (by omega) p1 p2 (step_Vd hx g)
        · rw [if_neg g]
          exact Tells.neg (by rw [toldv_false g]; simp) (Tells.now _)
      by_cases hk : kind x = 1
      · rw [if_pos hk]
        exact Tells.pos hk (after _ (by omega) (by omega))
      · rw [if_neg hk]
        exact Tells.neg hk (after _ (by omega) (by omega))
def downv (a : List Int) (n : Int) : Int × Int := match ordOf a with
  | some x => if 0 ≤ n ∧ n ≤ 99 then down n 3000 x 0 0 else (-1, -1)
  | none => (-1, -1)
theorem downv_some {l : List Int} {x : O} (h : ordOf l = some x) (n : Int) : downv l n = if 0 ≤ n ∧ n ≤ 99 then down n 3000 x 0 0 else (-1, -1) := by unfold downv; rw [h]
theorem downv_none {l : List Int} (h : ordOf l = none) (n : Int) : downv l n = (-1, -1) := by unfold downv; rw [h]
theorem specStepsDown_ev {a : List Int} {n : Int} (ha : (a.length : Int) ≤ 10000000) : Tells (fun k => spec_StepsDown.f k a n) (downv a n) := by
  have bad : Tells (fun k => spec_StepsDown.j0 k a n true) (-1, -1) := by
    refine Tells.step (fun k => by rw [spec_StepsDown.j0]) ?_
    exact Tells.pos rfl (Tells.now _)
  cases h : ordOf a with
  | none =>
    rw [downv_none h]
    refine Tells.bind (invalid_ev (by omega) h) ?_
    exact Tells.neg (by simp) bad
  | some x =>
    rw [downv_some h]
    refine Tells.bind (valid_ev h) ?_
    refine Tells.pos rfl ?_
    refine Tells.bind (Tells.const (l1In_eq n 0 99)) ?_
    by_cases hn : 0 ≤ n ∧ n ≤ 99
    · rw [if_pos hn, decide_eq_true hn]
      refine Tells.step (fun k => by rw [spec_StepsDown.j0]) ?_
      refine Tells.neg (by simp) ?_
      obtain ⟨h1, h2⟩ := ordOf_some h
      rw [h1]
      exact specDown_l hn 3000 x 0 0 (by omega) (by omega) (by omega) (by omega) h2
    · rw [if_neg hn, decide_eq_false hn]
      exact bad
theorem implStepsDown_ev {a : List Int} {n : Int} : Tells (fun k => impl_StepsDown.f k a n) (downv a n) := by
  refine Tells.bind ordOf_ev ?_
  have bad : ∀ y : O, Tells (fun k => impl_StepsDown.j0 k n y true) (-1, -1) := fun y => by
    refine Tells.step (fun k => by rw [impl_StepsDown.j0]) ?_
    exact Tells.pos rfl (Tells.now _)
  cases h : ordOf a with
  | none =>
    rw [downv_none h]
    exact Tells.neg (by rw [ordv_none h]; simp) (bad _)
  | some x =>
    rw [ordv_some h, downv_some h]
    refine Tells.pos rfl ?_
    obtain ⟨h1, h2⟩ := ordOf_some h
    by_cases g1 : n < 0
    · rw [if_neg (by omega)]
      exact Tells.pos g1 (bad _)
    · refine Tells.neg g1 ?_
      by_cases g2 : n > 99
      · rw [if_neg (by omega)]
        show Tells (fun k => impl_StepsDown.j0 k n x (decide (n > 99))) _
        rw [decide_eq_true g2]; exact bad _
      · rw [if_pos (by omega)]
        show Tells (fun k => impl_StepsDown.j0 k n x (decide (n > 99))) _
        rw [decide_eq_false g2]
        refine Tells.step (fun k => by rw [impl_StepsDown.j0]) ?_
        refine Tells.neg (by simp) ?_
        exact implDown_l (by omega) 3000 x 0 0 (by omega) (by omega) (by omega) (by omega) h2
end Go.Proofs.Ytogaeadigmgcoaa.P
