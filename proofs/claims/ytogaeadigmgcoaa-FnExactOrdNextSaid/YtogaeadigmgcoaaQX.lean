/- The next ordinal, as both tell it. -/
import Derived.Test.YtogaeadigmgcoaaP0
import Derived.Test.YtogaeadigmgcoaaMath
import Derived.Test.YtogaeadigmgcoaaPspecOrdNext
import Derived.Test.YtogaeadigmgcoaaPimplOrdNext
import Derived.Test.YtogaeadigmgcoaaPimplnumber
import Derived.Test.YtogaeadigmgcoaaPspecl1Make
import Derived.Test.YtogaeadigmgcoaaQK
import Derived.Test.YtogaeadigmgcoaaQS
namespace Go.Proofs.Ytogaeadigmgcoaa.P
open OM Go.RowKit Go.Proofs.YtogaeadigmgcoaaW.PrintWords Go.Proofs.YtogaeadigmgcoaaW.PrintLast Go.Proofs.YtogaeadigmgcoaaW.PrintMore
set_option linter.unusedVariables false

def nextv (a : List Int) : List Int × Bool := match ordOf a with
  | some x => toldv (add x one)
  | none => ([], false)
theorem nextv_some {l : List Int} {x : O} (h : ordOf l = some x) : nextv l = toldv (add x one) := by unfold nextv; rw [h]
theorem nextv_none {l : List Int} (h : ordOf l = none) : nextv l = ([], false) := by unfold nextv; rw [h]
theorem nextv_length (a : List Int) : ((nextv a).1.length : Int) ≤ 60 := by
  cases h : ordOf a with
  | none => rw [nextv_none h]; simp
  | some x => rw [nextv_some h]; exact toldv_length _
theorem size_one : size one = 3 := by rw [size_cons, size_nil]; rfl
theorem most_one : most one = 1 := by rw [most_cons, most_nil]; rfl
theorem next_j0 {y : O} {A : List Int} {B : List (List Int)} (hA : A = cs y) (hB : B = es y) (hy : NF y) (hz : size y ≤ 1000000) : Tells (fun k => spec_OrdNext.j0 k A B) (toldv y) := by
  refine Tells.step (fun k => by rw [spec_OrdNext.j0]) ?_
  refine Tells.bind (make_ev' hA hB (by omega)) ?_
  refine Tells.bind (validRow_ev hy (by omega)) ?_
  by_cases g : size y ≤ 60 ∧ most y ≤ 9999
  · rw [toldv_true g]
    exact Tells.pos (decide_eq_true g) (Tells.now _)
  · rw [toldv_false g]
    exact Tells.neg (by rw [decide_eq_false g]; simp) (Tells.now _)
theorem set_last (p : O) (c d : Int) (e : O) : (cs (p ++ [⟨c, e⟩])).set p.length d = cs (p ++ [⟨d, e⟩]) := by
  rw [cs_append, cs_append, ← cs_length p, List.set_append_right _ _ (Nat.le_refl _)]; simp [cs]
theorem es_last (p : O) (c d : Int) (e : O) : es (p ++ [⟨c, e⟩]) = es (p ++ [⟨d, e⟩]) := by rw [es_append, es_append]; rfl
theorem specOrdNext_ev {a : List Int} (ha : (a.length : Int) ≤ 10000000) : Tells (fun k => spec_OrdNext.f k a) (nextv a) := by
  cases h : ordOf a with
  | none =>
    rw [nextv_none h]
    refine Tells.bind (invalid_ev (by omega) h) ?_
    exact Tells.neg (by simp) (Tells.now _)
  | some x =>
    rw [nextv_some h]
    refine Tells.bind (valid_ev h) ?_
    refine Tells.pos rfl ?_
    obtain ⟨h1, h2⟩ := ordOf_some h
    have hz := h2.size
    have hn := size_add x one
    rw [size_one] at hn
    have hNF := add_NF h2.1 NF_one
    have ht : Tells (fun k => spec_l1Terms.f k a) (cs x, es x) := by rw [h1]; exact terms_ev (by omega)
    refine Tells.bind ht ?_
    refine Tells.bind (specKind_ev h) ?_
    have hl := length_le_size x
    rcases add_one_ways h2.1 with ⟨hx, hy⟩ | ⟨p, c, hx, hy⟩ | ⟨hk, hy⟩
    · refine Tells.neg (by rw [hx, kind_nil]; omega) ?_
      refine Tells.pos (by rw [cs_length]; omega) ?_
      refine Tells.pos (by rw [es_length]; omega) ?_
      exact next_j0 (by rw [hy, hx]; rfl) (by rw [hy, hx]; unfold es one; simp [row_nil]) hNF (by omega)
    · refine Tells.pos (by rw [hx, kind_snoc]; rfl) ?_
      have hw : wrap64 (((cs x).length : Int) - 1) = (p.length : Int) := by
        rw [cs_length, wrap_id (by omega) (by omega), hx]; simp <;> omega
      have hc : c ≤ 9999 := by
        have := h2.2.1
        have hh : c ≤ most x := by
          rw [hx]
          clear hx hy hw
          induction p with
          | nil => show c ≤ most [⟨c, []⟩]; rw [most_cons]; omega
          | cons t p ih => obtain ⟨d, f⟩ := t; show c ≤ most (⟨d, f⟩ :: (p ++ [⟨c, []⟩])); rw [most_cons]; omega
        omega
      have hc' := (NF_append_last (by rw [← hx]; exact h2.1)).1
      rw [hw]
      refine Tells.pos (by omega) ?_
      refine Tells.pos (by rw [cs_length, hx]; simp <;> omega) ?_
      have hrd : rd (cs x) (p.length : Int) = c := by rw [hx]; exact rdc_last p c []
      rw [hrd, wrap_id (by omega) (by omega)]
      exact next_j0 (by rw [hy, hx, Int.toNat_natCast, set_last]) (by rw [hy, hx]; exact es_last _ _ _ _) hNF (by omega)
    · refine Tells.neg (by rw [hk]; omega) ?_
      refine Tells.pos (by rw [cs_length]; omega) ?_
      refine Tells.pos (by rw [es_length]; omega) ?_
      exact next_j0 (by rw [hy, cs_append]; rfl) (by rw [hy, es_append]; unfold es one; simp [row_nil]) hNF (by omega)
theorem implOrdNext_ev {a : List Int} : Tells (fun k => impl_OrdNext.f k a) (nextv a) := by
  refine Tells.bind ordOf_ev ?_
  cases h : ordOf a with
  | none => rw [nextv_none h]; exact Tells.neg (by rw [ordv_none h]; simp) (Tells.now _)
  | some x =>
    rw [ordv_some h, nextv_some h]
    refine Tells.pos rfl ?_
    obtain ⟨h1, h2⟩ := ordOf_some h
    have hz := h2.size
    have hm := h2.2.1
    have hn := size_add x one
    have h3 := size_one
    have h4 := most_one
    have h5 : impl_number.f 1 = some one := by unfold impl_number.f; rfl
    refine Tells.bind (Tells.const h5) ?_
    refine Tells.bind (add_ev h2.1 (by show most x ≤ _; omega) (by omega) (by show size x ≤ _; omega) (by omega) NF_one) ?_
    exact Tells.bind (told_ev (by show size (add x one) ≤ _; omega)) (Tells.now _)
end Go.Proofs.Ytogaeadigmgcoaa.P
