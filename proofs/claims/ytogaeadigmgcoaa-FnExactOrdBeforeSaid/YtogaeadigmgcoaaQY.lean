/- The ordinal before, as both tell it. -/
import Derived.Test.YtogaeadigmgcoaaP0
import Derived.Test.YtogaeadigmgcoaaMath
import Derived.Test.YtogaeadigmgcoaaPspecOrdBefore
import Derived.Test.YtogaeadigmgcoaaPimplOrdBefore
import Derived.Test.YtogaeadigmgcoaaPspecl1Make
import Derived.Test.YtogaeadigmgcoaaQY1
namespace Go.Proofs.Ytogaeadigmgcoaa.P
open OM Go.RowKit Go.Proofs.YtogaeadigmgcoaaW.PrintWords Go.Proofs.YtogaeadigmgcoaaW.PrintLast Go.Proofs.YtogaeadigmgcoaaW.PrintMore
set_option linter.unusedVariables false

def beforev (a : List Int) : List Int × Bool := match ordOf a with
  | some x => if kind x = 1 then (row (bef x), true) else ([], false)
  | none => ([], false)
theorem beforev_some {l : List Int} {x : O} (h : ordOf l = some x) : beforev l = if kind x = 1 then (row (bef x), true) else ([], false) := by unfold beforev; rw [h]
theorem beforev_none {l : List Int} (h : ordOf l = none) : beforev l = ([], false) := by unfold beforev; rw [h]
theorem bef_Vd {x : O} (h : Vd x) : Vd (bef x) := by
  have h1 := size_bef x
  have h2 := most_bef h.1
  exact ⟨bef_NF h.1, by have := h.2.1; omega, by have := h.2.2; omega⟩
theorem beforev_length (a : List Int) : ((beforev a).1.length : Int) ≤ 60 := by
  cases h : ordOf a with
  | none => rw [beforev_none h]; simp
  | some x =>
    rw [beforev_some h]
    split
    · show ((row _).length : Int) ≤ 60
      rw [row_length]; exact (bef_Vd (ordOf_some h).2).2.2
    · simp
theorem specOrdBefore_ev {a : List Int} (ha : (a.length : Int) ≤ 10000000) : Tells (fun k => spec_OrdBefore.f k a) (beforev a) := by
  refine Tells.bind (specOrdKind_ev (by omega)) ?_
  cases h : ordOf a with
  | none =>
    rw [kindv_none h, beforev_none h]
    exact Tells.neg (by omega) (Tells.now _)
  | some x =>
    rw [kindv_some h, beforev_some h]
    by_cases hk : kind x = 1
    · rw [if_pos hk]
      refine Tells.pos hk ?_
      obtain ⟨h1, h2⟩ := ordOf_some h
      have hz := h2.size
      have ht : Tells (fun k => spec_l1Terms.f k a) (cs x, es x) := by rw [h1]; exact terms_ev (by omega)
      refine Tells.bind ht ?_
      rcases List.eq_nil_or_concat x with h' | ⟨p, t, h'⟩
      · rw [h', kind_nil] at hk; omega
      · rw [List.concat_eq_append] at h'
        subst h'
        obtain ⟨c, e⟩ := t
        have hl := length_le_size (p ++ [⟨c, e⟩])
        have hzb := size_bef (p ++ [⟨c, e⟩])
        have hc := (NF_append_last h2.1).1
        have hc' := @last_le p c e
        have hm := h2.2.1
        have hw : wrap64 (((cs (p ++ [(⟨c, e⟩ : Tm)])).length : Int) - 1) = (p.length : Int) := by
          rw [cs_length, wrap_id (by omega) (by omega)]; simp <;> omega
        rw [hw, rdc_last]
        refine Tells.pos (by omega) ?_
        refine Tells.pos (by rw [cs_length]; simp <;> omega) ?_
        rw [bef_append, bef_s] at hzb ⊢
        by_cases g : c = 1
        · rw [if_pos g] at hzb ⊢
          refine Tells.pos g ?_
          refine Tells.pos (by rw [cs_length]; simp <;> omega) ?_
          refine Tells.pos (by rw [es_length]; simp <;> omega) ?_
          refine Tells.bind (make_ev' (x := p ++ []) (by rw [cs_append, List.append_nil, Int.toNat_natCast, ← cs_length p, List.take_left]) (by rw [es_append, List.append_nil, Int.toNat_natCast, ← es_length p, List.take_left]) (by omega)) ?_
          exact Tells.now _
        · rw [if_neg g] at hzb ⊢
          refine Tells.neg g ?_
          rw [wrap_id (i := c - 1) (by omega) (by omega)]
          refine Tells.bind (make_ev' (x := p ++ [⟨c - 1, e⟩]) (by rw [Int.toNat_natCast, ← cs_length p, cs_append, List.set_append_right _ _ (Nat.le_refl _), cs_append]; simp [cs]) (by rw [es_append, es_append]; rfl) (by omega)) ?_
          exact Tells.now _
    · rw [if_neg hk]
      exact Tells.neg hk (Tells.now _)
theorem implOrdBefore_ev {a : List Int} : Tells (fun k => impl_OrdBefore.f k a) (beforev a) := by
  refine Tells.bind ordOf_ev ?_
  have bad : ∀ y : O, Tells (fun k => impl_OrdBefore.j0 k y true) ([], false) := fun y => by
    refine Tells.step (fun k => by rw [impl_OrdBefore.j0]) ?_
    exact Tells.pos rfl (Tells.now _)
  cases h : ordOf a with
  | none =>
    rw [beforev_none h]
    exact Tells.neg (by rw [ordv_none h]; simp) (bad _)
  | some x =>
    rw [ordv_some h, beforev_some h]
    refine Tells.pos rfl ?_
    obtain ⟨h1, h2⟩ := ordOf_some h
    have hz := h2.size
    have hm := h2.2.1
    refine Tells.bind (Tells.const (implKind_eq (by show size x ≤ _; omega))) ?_
    by_cases hk : kind x = 1
    · rw [if_pos hk]
      show Tells (fun k => impl_OrdBefore.j0 k x (kind x != 1)) _
      rw [hk]
      refine Tells.step (fun k => by rw [impl_OrdBefore.j0]) ?_
      refine Tells.neg (by simp) ?_
      refine Tells.bind (Tells.const (before_eq (fun he => by rw [he, kind_nil] at hk; omega) h2.1 (by omega) (by omega))) ?_
      have hb := bef_Vd h2
      have := hb.size
      refine Tells.bind (told_ev (by omega)) ?_
      rw [toldv_true ⟨hb.2.2, hb.2.1⟩]
      exact Tells.now _
    · rw [if_neg hk]
      show Tells (fun k => impl_OrdBefore.j0 k x (kind x != 1)) _
      rw [show (kind x != 1) = true from bne_iff_ne.mpr hk]
      exact bad _
end Go.Proofs.Ytogaeadigmgcoaa.P
