/- What the program's before comes to: the ordinal with one less of its last term. -/
import Derived.Test.YtogaeadigmgcoaaP0
import Derived.Test.YtogaeadigmgcoaaMath
import Derived.Test.YtogaeadigmgcoaaPimplbefore
import Derived.Test.YtogaeadigmgcoaaPslicesCloneord
import Derived.Test.YtogaeadigmgcoaaQK
namespace Go.Proofs.Ytogaeadigmgcoaa.P
open OM Go.RowKit Go.Proofs.YtogaeadigmgcoaaW.PrintWords Go.Proofs.YtogaeadigmgcoaaW.PrintLast Go.Proofs.YtogaeadigmgcoaaW.PrintMore
set_option linter.unusedVariables false

theorem last_le {p : O} {c : Int} {e : O} : c ≤ most (p ++ [⟨c, e⟩]) := by
  induction p with
  | nil => show c ≤ most [⟨c, e⟩]; rw [most_cons]; omega
  | cons t p ih => obtain ⟨d, f⟩ := t; show c ≤ most (⟨d, f⟩ :: (p ++ [⟨c, e⟩])); rw [most_cons]; omega
theorem last_most {p : O} {c : Int} {e : O} : most e ≤ most (p ++ [⟨c, e⟩]) := by
  induction p with
  | nil => show most e ≤ most [⟨c, e⟩]; rw [most_cons]; omega
  | cons t p ih => obtain ⟨d, f⟩ := t; show most e ≤ most (⟨d, f⟩ :: (p ++ [⟨c, e⟩])); rw [most_cons]; omega
theorem before_eq {x : O} (hx : x ≠ []) (h : NF x) (hz : size x ≤ 100000000) (hm : most x ≤ 1000000000000000000) : impl_before.f x = some (bef x) := by
  rcases List.eq_nil_or_concat x with h' | ⟨p, t, h'⟩
  · exact absurd h' hx
  · rw [List.concat_eq_append] at h'
    subst h'
    obtain ⟨c, e⟩ := t
    have hl := length_le_size (p ++ [⟨c, e⟩])
    obtain ⟨h1, h2⟩ := rdT_last p ⟨c, e⟩ (by omega)
    have hc := (NF_append_last h).1
    have hc' := @last_le p c e
    have hlen : ((p ++ [(⟨c, e⟩ : Tm)]).length : Int) = (p.length : Int) + 1 := by simp
    have hcl : slices_Clone_ord.f (p ++ [(⟨c, e⟩ : Tm)]) = some (p ++ [⟨c, e⟩]) := by unfold slices_Clone_ord.f; rw [if_pos (by omega)]
    unfold impl_before.f
    rw [hcl]
    show (if 0 ≤ wrap64 (((p ++ [(⟨c, e⟩ : Tm)]).length : Int) - 1) then _ else _) = _
    rw [h1, h2, if_pos (by omega), if_pos (by omega), wrap_id (i := (⟨c, e⟩ : Tm).f0 - 1) (by show _ ≤ c - 1; omega) (by show c - 1 ≤ _; omega), bef_append, bef_s]
    have hset : (p ++ [(⟨c, e⟩ : Tm)]).set (p.length : Int).toNat ⟨c - 1, e⟩ = p ++ [⟨c - 1, e⟩] := by
      rw [Int.toNat_natCast, List.set_append_right _ _ (Nat.le_refl _)]; simp
    show (if c - 1 = 0 then some (((p ++ [(⟨c, e⟩ : Tm)]).set (p.length : Int).toNat ⟨c - 1, e⟩).take (p.length : Int).toNat) else some ((p ++ [(⟨c, e⟩ : Tm)]).set (p.length : Int).toNat ⟨c - 1, e⟩)) = _
    rw [hset]
    by_cases g : c = 1
    · rw [if_pos (by omega), if_pos g, Int.toNat_natCast, List.take_left]; simp
    · rw [if_neg (by omega), if_neg g]
end Go.Proofs.Ytogaeadigmgcoaa.P
