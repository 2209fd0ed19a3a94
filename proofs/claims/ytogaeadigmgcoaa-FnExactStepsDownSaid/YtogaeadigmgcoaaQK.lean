/- The kind of an ordinal, as both tell it. -/
import Derived.Test.YtogaeadigmgcoaaP0
import Derived.Test.YtogaeadigmgcoaaMath
import Derived.Test.YtogaeadigmgcoaaPspecOrdKind
import Derived.Test.YtogaeadigmgcoaaPimplkind
import Derived.Test.YtogaeadigmgcoaaPimplOrdKind
import Derived.Test.YtogaeadigmgcoaaQV
namespace Go.Proofs.Ytogaeadigmgcoaa.P
open OM Go.RowKit Go.Proofs.YtogaeadigmgcoaaW.PrintWords Go.Proofs.YtogaeadigmgcoaaW.PrintLast Go.Proofs.YtogaeadigmgcoaaW.PrintMore
set_option linter.unusedVariables false

theorem rdT_last (p : O) (t : Tm) (h : size (p ++ [t]) ≤ 10000000000) : wrap64 (((p ++ [t]).length : Int) - 1) = (p.length : Int) ∧ rd_T65 (p ++ [t]) (p.length : Int) = t := by
  have := length_le_size (p ++ [t])
  simp only [List.length_append, List.length_singleton] at this
  refine ⟨?_, rdT_mid p [] t rfl⟩
  rw [wrap_id (by simp <;> omega) (by simp <;> omega)]
  simp <;> omega
theorem kind_snoc (p : O) (c : Int) (e : O) : kind (p ++ [⟨c, e⟩]) = if e = [] then 1 else 2 := by
  rw [kind_append, kind_s]
  cases e <;> simp
theorem implKind_eq {x : O} (h : size x ≤ 10000000000) : impl_kind.f x = some (kind x) := by
  unfold impl_kind.f
  rcases List.eq_nil_or_concat x with h' | ⟨p, t, h'⟩
  · subst h'; rw [kind_nil]; rfl
  · rw [List.concat_eq_append] at h'
    subst h'
    obtain ⟨c, e⟩ := t
    obtain ⟨h1, h2⟩ := rdT_last p ⟨c, e⟩ h
    rw [h1, h2, if_neg (by simp <;> omega), if_pos (by omega), if_pos (by simp <;> omega), kind_snoc]
    cases e with
    | nil => rfl
    | cons t r => rw [if_neg (by simp <;> omega), if_neg (by simp)]
theorem rdL_last (p : O) (c : Int) (e : O) : rd_L1 (es (p ++ [⟨c, e⟩])) (p.length : Int) = row e := by
  rw [es_append, es_cons]; exact rdL_mid _ _ _ (by rw [es_length])
theorem rdc_last (p : O) (c : Int) (e : O) : rd (cs (p ++ [⟨c, e⟩])) (p.length : Int) = c := by
  rw [cs_append, cs_cons]; exact rd_mid _ _ _ (by rw [cs_length])
theorem specKind_ev {l : List Int} {x : O} (h : ordOf l = some x) : Tells (fun k => spec_OrdKind.f k l) (kind x) := by
  obtain ⟨h1, h2⟩ := ordOf_some h
  have := h2.size
  refine Tells.bind (valid_ev h) ?_
  refine Tells.pos rfl ?_
  rw [h1]
  refine Tells.bind (terms_ev (by omega)) ?_
  rcases List.eq_nil_or_concat x with h' | ⟨p, t, h'⟩
  · subst h'
    refine Tells.pos rfl ?_
    rw [kind_nil]; exact Tells.now _
  · rw [List.concat_eq_append] at h'
    subst h'
    obtain ⟨c, e⟩ := t
    have hl := length_le_size (p ++ [⟨c, e⟩])
    have hw : wrap64 (((es (p ++ [⟨c, e⟩])).length : Int) - 1) = (p.length : Int) := by
      rw [es_length, wrap_id (by omega) (by omega)]; simp <;> omega
    rw [hw, rdL_last]
    refine Tells.neg (by rw [es_length]; simp <;> omega) ?_
    refine Tells.pos (by omega) ?_
    refine Tells.pos (by rw [es_length]; simp <;> omega) ?_
    rw [kind_snoc]
    by_cases he : e = []
    · rw [if_pos he]
      exact Tells.pos (row_one.2 he) (Tells.now _)
    · rw [if_neg he]
      exact Tells.neg (fun h => he (row_one.1 h)) (Tells.now _)
def kindv (a : List Int) : Int := match ordOf a with
  | some x => kind x
  | none => -1
theorem kindv_some {l : List Int} {x : O} (h : ordOf l = some x) : kindv l = kind x := by unfold kindv; rw [h]
theorem kindv_none {l : List Int} (h : ordOf l = none) : kindv l = -1 := by unfold kindv; rw [h]
theorem specOrdKind_ev {a : List Int} (ha : (a.length : Int) ≤ 100000000) : Tells (fun k => spec_OrdKind.f k a) (kindv a) := by
  cases h : ordOf a with
  | none =>
    rw [kindv_none h]
    refine Tells.bind (invalid_ev ha h) ?_
    exact Tells.neg (by simp) (Tells.now _)
  | some x => rw [kindv_some h]; exact specKind_ev h
theorem implOrdKind_ev {a : List Int} : Tells (fun k => impl_OrdKind.f k a) (kindv a) := by
  refine Tells.bind ordOf_ev ?_
  cases h : ordOf a with
  | none => rw [kindv_none h]; exact Tells.neg (by rw [ordv_none h]; simp) (Tells.now _)
  | some x =>
    rw [ordv_some h, kindv_some h]
    refine Tells.pos rfl ?_
    have := (ordOf_some h).2.size
    exact Tells.bind (Tells.const (implKind_eq (by show size x ≤ _; omega))) (Tells.now _)
end Go.Proofs.Ytogaeadigmgcoaa.P
