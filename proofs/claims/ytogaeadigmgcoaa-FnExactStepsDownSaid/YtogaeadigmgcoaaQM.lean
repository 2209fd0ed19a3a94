/- What the laws' own small functions come to, with rounds enough: lists compared, copied, marked. -/
import Derived.Test.YtogaeadigmgcoaaP0
import Derived.Test.YtogaeadigmgcoaaMath
import Derived.Test.YtogaeadigmgcoaaPlawstoIntS
import Derived.Test.YtogaeadigmgcoaaPlawseqIntS
import Derived.Test.YtogaeadigmgcoaaPlawsmarkIntS
import Derived.Test.YtogaeadigmgcoaaPlawsheldIntS
import Derived.Test.YtogaeadigmgcoaaQA
namespace Go.Proofs.Ytogaeadigmgcoaa.P
open OM Go.RowKit Go.Proofs.YtogaeadigmgcoaaW.PrintWords Go.Proofs.YtogaeadigmgcoaaW.PrintLast Go.Proofs.YtogaeadigmgcoaaW.PrintMore
set_option linter.unusedVariables false

theorem eqIntS_l : ∀ (a b p q : List Int), p.length = q.length → a.length = b.length → ((p ++ a).length : Int) ≤ 4000000000000000000 → Tells (fun k => laws_eqIntS.l0 k (p ++ a) (q ++ b) (p.length : Int)) (decide (a = b)) := by
  intro a
  induction a with
  | nil =>
    intro b p q h1 h2 h3
    cases b with
    | cons _ _ => simp at h2
    | nil =>
      refine Tells.step (fun k => by rw [laws_eqIntS.l0]) ?_
      exact Tells.neg (by simp) (Tells.now _)
  | cons x a ih =>
    intro b p q h1 h2 h3
    cases b with
    | nil => simp at h2
    | cons y b =>
      have h3' := h3
      simp only [List.length_append, List.length_cons] at h3'
      refine Tells.step (fun k => by rw [laws_eqIntS.l0]) ?_
      refine Tells.pos (by simp; omega) ?_
      refine Tells.pos (by omega) ?_
      refine Tells.pos (by simp; omega) ?_
      rw [rd_mid p a x rfl, rd_mid q b y (by rw [h1])]
      by_cases h : x = y
      · refine Tells.pos h ?_
        rw [wrap_id (by omega) (by omega), snoc p, snoc q]
        have := ih b (p ++ [x]) (q ++ [y]) (by simp [h1]) (by simpa using h2) (by rw [← snoc]; exact h3)
        rw [show ((p ++ [x]).length : Int) = (p.length : Int) + 1 by simp] at this
        refine Tells.to this ?_
        simp [h]
      · refine Tells.neg h ?_
        refine Tells.to (Tells.now _) ?_
        simp [h]
theorem eqIntS_ev {a b : List Int} (h : (a.length : Int) ≤ 4000000000000000000) : Tells (fun k => laws_eqIntS.f k a b) (decide (a = b)) := by
  by_cases hl : (a.length : Int) = (b.length : Int)
  · exact Tells.pos hl (eqIntS_l a b [] [] rfl (by omega) h)
  · refine Tells.neg hl ?_
    refine Tells.to (Tells.now _) ?_
    have : a ≠ b := by rintro rfl; exact hl rfl
    simp [this]
theorem toIntS_l : ∀ (a p q : List Int), q.length = a.length → ((p ++ a).length : Int) ≤ 4000000000000000000 → Tells (fun k => laws_toIntS.l0 k (p ++ a) (p ++ q) (p.length : Int)) (p ++ a) := by
  intro a
  induction a with
  | nil =>
    intro p q h1 h3
    refine Tells.step (fun k => by rw [laws_toIntS.l0]) ?_
    refine Tells.neg (by simp) ?_
    have : q = [] := List.eq_nil_of_length_eq_zero (by simpa using h1)
    rw [this]; exact Tells.now _
  | cons x a ih =>
    intro p q h1 h3
    cases q with
    | nil => simp at h1
    | cons y q =>
      have h3' := h3
      simp only [List.length_append, List.length_cons] at h3'
      refine Tells.step (fun k => by rw [laws_toIntS.l0]) ?_
      refine Tells.pos (by simp; omega) ?_
      refine Tells.pos (by omega) ?_
      refine Tells.pos (by simp; omega) ?_
      rw [rd_mid p a x rfl, wrap_id (by omega) (by omega)]
      have hs : (p ++ y :: q).set (p.length : Int).toNat x = (p ++ [x]) ++ q := by simp
      rw [hs, snoc p]
      have := ih (p ++ [x]) q (by simpa using h1) (by rw [← snoc]; exact h3)
      rw [show ((p ++ [x]).length : Int) = (p.length : Int) + 1 by simp] at this
      exact this
theorem toIntS_ev {a : List Int} (h : (a.length : Int) ≤ 1000000000) : Tells (fun k => laws_toIntS.f k a) a := by
  refine Tells.pos (by omega) ?_
  refine Tells.pos (by omega) ?_
  exact toIntS_l a [] (List.replicate (a.length : Int).toNat 0) (by simp) (by simp; omega)
def marks : Int → Nat → List Int
  | _, 0 => []
  | i, n + 1 => i :: marks (i + 1) n
theorem marks_length (i : Int) (n : Nat) : (marks i n).length = n := by
  induction n generalizing i with
  | zero => rfl
  | succ n ih => simp [marks, ih]
theorem markIntS_l : ∀ (a p : List Int) (m : Int), 0 ≤ m → m + a.length ≤ 2000000000 → ((p ++ a).length : Int) ≤ 2000000000 → Tells (fun k => laws_markIntS.l0 k (p ++ a) m (p.length : Int)) (m + a.length, p ++ marks m a.length) := by
  intro a
  induction a with
  | nil =>
    intro p m h0 h1 h3
    refine Tells.step (fun k => by rw [laws_markIntS.l0]) ?_
    refine Tells.neg (by simp) ?_
    refine Tells.to (Tells.now _) ?_
    simp [marks]
  | cons x a ih =>
    intro p m h0 h1 h3
    have h3' := h3
    simp only [List.length_append, List.length_cons] at h3' h1
    refine Tells.step (fun k => by rw [laws_markIntS.l0]) ?_
    refine Tells.pos (by simp; omega) ?_
    refine Tells.pos (by omega) ?_
    have hs : (p ++ x :: a).set (p.length : Int).toNat m = (p ++ [m]) ++ a := by simp
    rw [hs, wrap_id (i := m + 1) (by omega) (by omega), wrap_id (i := (p.length : Int) + 1) (by omega) (by omega)]
    have := ih (p ++ [m]) (m + 1) (by omega) (by omega) (by simp; omega)
    rw [show ((p ++ [m]).length : Int) = (p.length : Int) + 1 by simp] at this
    refine Tells.to this ?_
    simp [marks]; omega
theorem markIntS_ev {a : List Int} {m : Int} (h0 : 0 ≤ m) (h1 : m + a.length ≤ 1000000000) : Tells (fun k => laws_markIntS.f k a m) (m + a.length, marks m a.length) :=
  markIntS_l a [] m h0 (by omega) (by simp; omega)
theorem heldIntS_l : ∀ (n : Nat) (p : List Int) (m : Int), 0 ≤ m → m + n ≤ 2000000000 → (p.length : Int) + n ≤ 2000000000 → Tells (fun k => laws_heldIntS.l0 k (p ++ marks m n) m (p.length : Int)) (m + n) := by
  intro n
  induction n with
  | zero =>
    intro p m h0 h1 h3
    refine Tells.step (fun k => by rw [laws_heldIntS.l0]) ?_
    refine Tells.neg (by simp [marks]) ?_
    refine Tells.to (Tells.now _) ?_
    simp
  | succ n ih =>
    intro p m h0 h1 h3
    refine Tells.step (fun k => by rw [laws_heldIntS.l0]) ?_
    have hm : marks m (n + 1) = m :: marks (m + 1) n := rfl
    refine Tells.pos (by simp [marks_length]; omega) ?_
    refine Tells.pos (by omega) ?_
    rw [hm, rd_mid p _ m rfl]
    refine Tells.pos rfl ?_
    rw [wrap_id (i := m + 1) (by omega) (by omega), wrap_id (i := (p.length : Int) + 1) (by omega) (by omega), snoc p]
    have := ih (p ++ [m]) (m + 1) (by omega) (by omega) (by simp; omega)
    rw [show ((p ++ [m]).length : Int) = (p.length : Int) + 1 by simp] at this
    exact Tells.to this (by omega)
theorem heldIntS_ev {n : Nat} {m : Int} (h0 : 0 ≤ m) (h1 : m + n ≤ 1000000000) : Tells (fun k => laws_heldIntS.f k (marks m n) m) (m + n) :=
  heldIntS_l n [] m h0 (by omega) (by simp; omega)
end Go.Proofs.Ytogaeadigmgcoaa.P
