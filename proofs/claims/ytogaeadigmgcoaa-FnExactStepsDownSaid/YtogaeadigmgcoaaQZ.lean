/- The step down, as both tell it. -/
import Derived.Test.YtogaeadigmgcoaaP0
import Derived.Test.YtogaeadigmgcoaaMath
import Derived.Test.YtogaeadigmgcoaaPspecOrdStep
import Derived.Test.YtogaeadigmgcoaaPimplOrdStep
import Derived.Test.YtogaeadigmgcoaaPspecl3Step
import Derived.Test.YtogaeadigmgcoaaPspecl2Fit
import Derived.Test.YtogaeadigmgcoaaPspecl1Make
import Derived.Test.YtogaeadigmgcoaaPspecl1In
import Derived.Test.YtogaeadigmgcoaaQZ1
namespace Go.Proofs.Ytogaeadigmgcoaa.P
open OM Go.RowKit Go.Proofs.YtogaeadigmgcoaaW.PrintWords Go.Proofs.YtogaeadigmgcoaaW.PrintLast Go.Proofs.YtogaeadigmgcoaaW.PrintMore
set_option linter.unusedVariables false

def stepv (a : List Int) (n : Int) : List Int × Bool := match ordOf a with
  | some x => if 0 ≤ n ∧ n ≤ 99 then toldv (OM.step n x) else ([], false)
  | none => ([], false)
theorem stepv_some {l : List Int} {x : O} (h : ordOf l = some x) (n : Int) : stepv l n = if 0 ≤ n ∧ n ≤ 99 then toldv (OM.step n x) else ([], false) := by unfold stepv; rw [h]
theorem stepv_none {l : List Int} (h : ordOf l = none) (n : Int) : stepv l n = ([], false) := by unfold stepv; rw [h]
theorem stepv_length (a : List Int) (n : Int) : ((stepv a n).1.length : Int) ≤ 60 := by
  cases h : ordOf a with
  | none => rw [stepv_none h]; simp
  | some x =>
    rw [stepv_some h]
    split
    · exact toldv_length _
    · simp
theorem bef_cs (p : O) (c : Int) (e : O) : cs (bef (p ++ [⟨c, e⟩])) = if c = 1 then cs p else cs p ++ [c - 1] := by
  rw [bef_append, bef_s]; split <;> simp [cs]
theorem bef_es (p : O) (c : Int) (e : O) : es (bef (p ++ [⟨c, e⟩])) = if c = 1 then es p else es p ++ [row e] := by
  rw [bef_append, bef_s]; split <;> simp [es]
theorem specStep_j0 {n : Int} {p : O} {c : Int} {e : O} (hn : 0 ≤ n) (h : NF (p ++ [⟨c, e⟩])) (hz : size (p ++ [⟨c, e⟩]) ≤ 10000) {A : List Int} {B : List (List Int)} (hA : A = cs (bef (p ++ [⟨c, e⟩]))) (hB : B = es (bef (p ++ [⟨c, e⟩]))) (ih : Tells (fun k => spec_l3Step.f k (row e) n) (row (OM.step n e))) :
    Tells (fun k => spec_l3Step.j0 k n (es (p ++ [⟨c, e⟩])) (p.length : Int) A B) (row (OM.step n (p ++ [⟨c, e⟩]))) := by
  subst hA; subst hB
  have hl := length_le_size (p ++ [⟨c, e⟩])
  have hbl := length_le_size (bef (p ++ [⟨c, e⟩]))
  have hbz := size_bef (p ++ [⟨c, e⟩])
  have hes := @size_last p c e
  have hsz := size_step n (p ++ [⟨c, e⟩])
  have hsq : size (p ++ [⟨c, e⟩]) * size (p ++ [⟨c, e⟩]) ≤ 10000 * 10000 := Int.mul_le_mul hz hz (by have := size_pos (p ++ [⟨c, e⟩]); omega) (by omega)
  have hepos := size_pos e
  have hstep := @step_two n p c e
  refine Tells.step (fun k => by rw [spec_l3Step.j0]) ?_
  rw [rdL_last]
  refine Tells.pos (by omega) ?_
  refine Tells.pos (by rw [es_length]; simp <;> omega) ?_
  have fin0 : tail n e = [] → Tells (fun k => (spec_l1Make.f k (cs (bef (p ++ [⟨c, e⟩]))) (es (bef (p ++ [⟨c, e⟩])))).bind fun t => some t) (row (OM.step n (p ++ [⟨c, e⟩]))) := by
    intro ht
    rw [hstep, ht, List.append_nil]
    exact Tells.bind (make_ev (by omega)) (Tells.now _)
  by_cases he : e = []
  · refine Tells.pos (row_one.2 he) ?_
    exact fin0 (by rw [he]; unfold tail; rw [kind_nil]; rfl)
  · refine Tells.neg (fun h => he (row_one.1 h)) ?_
    refine Tells.bind (terms_ev (by omega)) ?_
    have hke := kind_range e
    have more : ∀ m : Int, tail n e = [⟨m, OM.step n e⟩] → Tells (fun k => if (cs (bef (p ++ [⟨c, e⟩]))).length < 17592186044416 then ((spec_l3Step.f k (row e) n).bind fun t => (if (es (bef (p ++ [⟨c, e⟩]))).length < 5864062014805 then ((spec_l1Make.f k (cs (bef (p ++ [⟨c, e⟩])) ++ [m]) (es (bef (p ++ [⟨c, e⟩])) ++ [t])).bind fun t' => (some t')) else (none))) else (none)) (row (OM.step n (p ++ [⟨c, e⟩]))) := by
      intro m ht
      refine Tells.pos (by rw [cs_length]; omega) ?_
      refine Tells.bind ih ?_
      refine Tells.pos (by rw [es_length]; omega) ?_
      refine Tells.bind (make_ev' (x := OM.step n (p ++ [⟨c, e⟩])) (by rw [hstep, ht, cs_append]; rfl) (by rw [hstep, ht, es_append]; rfl) (by omega)) ?_
      exact Tells.now _
    rcases List.eq_nil_or_concat e with h' | ⟨q, t, h'⟩
    · exact absurd h' he
    · rw [List.concat_eq_append] at h'
      obtain ⟨d, f⟩ := t
      have hel := length_le_size e
      have hw : wrap64 (((es e).length : Int) - 1) = (q.length : Int) := by
        rw [es_length, wrap_id (by omega) (by omega), h']; simp <;> omega
      rw [hw]
      refine Tells.pos (by omega) ?_
      refine Tells.pos (by rw [es_length, h']; simp <;> omega) ?_
      have hrd : rd_L1 (es e) (q.length : Int) = row f := by rw [h']; exact rdL_last q d f
      have hkf : kind e = if f = [] then 1 else 2 := by rw [h']; exact kind_snoc q d f
      rw [hrd]
      by_cases hf : f = []
      · rw [if_pos hf] at hkf
        refine Tells.pos (row_one.2 hf) ?_
        by_cases hn0 : n > 0
        · refine Tells.pos hn0 ?_
          exact more n (by unfold tail; rw [if_neg (by omega), if_pos ⟨hkf, hn0⟩, step_one hkf])
        · refine Tells.neg hn0 ?_
          exact fin0 (by unfold tail; rw [if_neg (by omega), if_neg (fun h => hn0 h.2)])
      · rw [if_neg hf] at hkf
        refine Tells.neg (fun h => hf (row_one.1 h)) ?_
        exact more 1 (by unfold tail; rw [if_pos hkf])
theorem specl3Step_ev {n : Int} (hn : 0 ≤ n) : ∀ (d : Nat) (x : O), size x < d → NF x → size x ≤ 10000 → most x ≤ 1000000000000000000 → Tells (fun k => spec_l3Step.f k (row x) n) (row (OM.step n x)) := by
  intro d
  induction d with
  | zero => intro x h; have := size_pos x; omega
  | succ d ih =>
    intro x h0 h hz hm
    refine Tells.step (fun k => by rw [spec_l3Step.f]) ?_
    refine Tells.bind (terms_ev (by omega)) ?_
    rcases List.eq_nil_or_concat x with h' | ⟨p, t, h'⟩
    · subst h'
      rw [step_nil, row_nil]
      exact Tells.pos (by rw [cs_length, wrap_id (by simp) (by simp)]; simp) (Tells.now _)
    · rw [List.concat_eq_append] at h'
      subst h'
      obtain ⟨c, e⟩ := t
      have hl := length_le_size (p ++ [⟨c, e⟩])
      have hes := @size_last p c e
      have hem := @last_most p c e
      have hc' := @last_le p c e
      have hc := (NF_append_last h).1
      have heN := (NF_append_last h).2
      have hw : wrap64 (((cs (p ++ [(⟨c, e⟩ : Tm)])).length : Int) - 1) = (p.length : Int) := by
        rw [cs_length, wrap_id (by omega) (by omega)]; simp <;> omega
      have hlen : ((p ++ [(⟨c, e⟩ : Tm)]).length : Int) = (p.length : Int) + 1 := by simp
      rw [hw, rdc_last, rdL_last]
      have hj := fun A B hA hB => @specStep_j0 n p c e hn h hz A B hA hB (ih e (by omega) heN (by omega) (by omega))
      have tc : (cs (p ++ [(⟨c, e⟩ : Tm)])).take (p.length : Int).toNat = cs p := by rw [cs_append, Int.toNat_natCast, ← cs_length p, List.take_left]
      have te : (es (p ++ [(⟨c, e⟩ : Tm)])).take (p.length : Int).toNat = es p := by rw [es_append, Int.toNat_natCast, ← es_length p, List.take_left]
      refine Tells.neg (by omega) ?_
      refine Tells.sbind ?_
      refine Tells.pos (by omega) ?_
      refine Tells.pos (by rw [cs_length]; omega) ?_
      refine Tells.sbind ?_
      rw [tc]
      refine Tells.pos (by simp [cs_length] <;> omega) ?_
      refine Tells.sbind ?_
      refine Tells.sbind ?_
      refine Tells.pos (by rw [es_length]; omega) ?_
      refine Tells.sbind ?_
      rw [te]
      refine Tells.pos (by simp [es_length] <;> omega) ?_
      refine Tells.sbind ?_
      refine Tells.pos (by rw [cs_length]; omega) ?_
      rw [List.nil_append, List.nil_append]
      by_cases g : c > 1
      · refine Tells.pos g ?_
        refine Tells.pos (by rw [cs_length]; omega) ?_
        refine Tells.pos (by rw [es_length]; omega) ?_
        refine Tells.pos (by rw [es_length]; omega) ?_
        rw [wrap_id (i := c - 1) (by omega) (by omega)]
        exact hj _ _ (by rw [bef_cs, if_neg (by omega)]) (by rw [bef_es, if_neg (by omega)])
      · refine Tells.neg g ?_
        exact hj _ _ (by rw [bef_cs, if_pos (by omega)]) (by rw [bef_es, if_pos (by omega)])
theorem specFit_ev {x : O} (hx : NF x) (hz : size x ≤ 100000000) : Tells (fun k => spec_l2Fit.f k (row x)) (toldv x) := by
  refine Tells.bind (validRow_ev hx hz) ?_
  by_cases g : size x ≤ 60 ∧ most x ≤ 9999
  · rw [toldv_true g]
    exact Tells.pos (decide_eq_true g) (Tells.now _)
  · rw [toldv_false g]
    exact Tells.neg (by rw [decide_eq_false g]; simp) (Tells.now _)
theorem specStep_ev {n : Int} {l : List Int} {x : O} (h : ordOf l = some x) (hn : 0 ≤ n ∧ n ≤ 99) : Tells (fun k => spec_OrdStep.f k l n) (toldv (OM.step n x)) := by
  obtain ⟨h1, h2⟩ := ordOf_some h
  refine Tells.bind (valid_ev h) ?_
  refine Tells.pos rfl ?_
  refine Tells.bind (Tells.const (l1In_eq n 0 99)) ?_
  rw [decide_eq_true hn]
  refine Tells.step (fun k => by rw [spec_OrdStep.j0]) ?_
  refine Tells.neg (by simp) ?_
  have h3 := h2.2.1
  have h4 := h2.2.2
  have h5 := @size_stepV n x h2
  rw [h1]
  refine Tells.bind (specl3Step_ev hn.1 (size x).toNat.succ x (by have := size_pos x; omega) h2.1 (by omega) (by omega)) ?_
  refine Tells.bind (specFit_ev (step_NF h2.1) (by omega)) ?_
  exact Tells.now _
theorem specOrdStep_ev {a : List Int} {n : Int} (ha : (a.length : Int) ≤ 10000000) : Tells (fun k => spec_OrdStep.f k a n) (stepv a n) := by
  have bad : Tells (fun k => spec_OrdStep.j0 k a n true) ([], false) := by
    refine Tells.step (fun k => by rw [spec_OrdStep.j0]) ?_
    exact Tells.pos rfl (Tells.now _)
  cases h : ordOf a with
  | none =>
    rw [stepv_none h]
    refine Tells.bind (invalid_ev (by omega) h) ?_
    exact Tells.neg (by simp) bad
  | some x =>
    rw [stepv_some h]
    by_cases hn : 0 ≤ n ∧ n ≤ 99
    · rw [if_pos hn]; exact specStep_ev h hn
    · rw [if_neg hn]
      refine Tells.bind (valid_ev h) ?_
      refine Tells.pos rfl ?_
      refine Tells.bind (Tells.const (l1In_eq n 0 99)) ?_
      rw [decide_eq_false hn]
      exact bad
theorem implOrdStep_ev {a : List Int} {n : Int} : Tells (fun k => impl_OrdStep.f k a n) (stepv a n) := by
  refine Tells.bind ordOf_ev ?_
  have bad : ∀ y : O, Tells (fun k => impl_OrdStep.j0 k n y true) ([], false) := fun y => by
    refine Tells.step (fun k => by rw [impl_OrdStep.j0]) ?_
    exact Tells.pos rfl (Tells.now _)
  cases h : ordOf a with
  | none =>
    rw [stepv_none h]
    exact Tells.neg (by rw [ordv_none h]; simp) (bad _)
  | some x =>
    rw [ordv_some h, stepv_some h]
    refine Tells.pos rfl ?_
    obtain ⟨h1, h2⟩ := ordOf_some h
    by_cases g1 : n < 0
    · rw [if_neg (by omega)]
      exact Tells.pos g1 (bad _)
    · refine Tells.neg g1 ?_
      by_cases g2 : n > 99
      · rw [if_neg (by omega)]
        show Tells (fun k => impl_OrdStep.j0 k n x (decide (n > 99))) _
        rw [decide_eq_true g2]; exact bad _
      · rw [if_pos (by omega)]
        show Tells (fun k => impl_OrdStep.j0 k n x (decide (n > 99))) _
        rw [decide_eq_false g2]
        refine Tells.step (fun k => by rw [impl_OrdStep.j0]) ?_
        refine Tells.neg (by simp) ?_
        refine Tells.bind (implStep_ev (by omega) h2) ?_
        have h5 := @size_stepV n x h2
        exact Tells.bind (told_ev (by omega)) (Tells.now _)
end Go.Proofs.Ytogaeadigmgcoaa.P
