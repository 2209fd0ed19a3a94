/- The reference's reader of rows comes to what the parser tells: whether a row is an ordinal, and where it ends. -/
import Derived.Test.YtogaeadigmgcoaaP0
import Derived.Test.YtogaeadigmgcoaaMath
import Derived.Test.YtogaeadigmgcoaaPspecl1In
import Derived.Test.YtogaeadigmgcoaaPspecl1End
import Derived.Test.YtogaeadigmgcoaaPspecOrdValid
import Derived.Test.YtogaeadigmgcoaaQA
import Derived.Test.YtogaeadigmgcoaaQB
namespace Go.Proofs.Ytogaeadigmgcoaa.P
open OM Go.RowKit Go.Proofs.YtogaeadigmgcoaaW.PrintWords Go.Proofs.YtogaeadigmgcoaaW.PrintLast Go.Proofs.YtogaeadigmgcoaaW.PrintMore
set_option linter.unusedVariables false

def endv (tot : Int) : Option (O × List Int) → Int
  | none => -1
  | some (_, l') => tot - l'.length
theorem endv_none (t : Int) : endv t none = -1 := rfl
theorem endv_some (t : Int) (x : O) (l : List Int) : endv t (some (x, l)) = t - l.length := rfl
theorem rd_p (p l : List Int) (m : Int) : rd (p ++ m :: l) (p.length : Int) = m := rd_mid p l m rfl
theorem end_l {n : Nat} (ih : ∀ p l : List Int, l.length < n → (((p ++ l).length : Nat) : Int) ≤ 100000000 → Tells (fun k => spec_l1End.f k (p ++ l) (p.length : Int)) (endv ((p ++ l).length : Int) (take n l))) :
    ∀ (c : Nat) (p l last : List Int) (lo : Option O) (m i : Int), l.length ≤ n → (((p ++ l).length : Nat) : Int) ≤ 100000000 → m = i + c → 0 ≤ i → m ≤ 60 →
      (i = 0 → lo = none) → (0 < i → ∃ f, lo = some f ∧ last = row f ∧ size f ≤ 100000000) →
      Tells (fun k => spec_l1End.l0 k (p ++ l) (p.length : Int) m last i) (endv ((p ++ l).length : Int) (terms (take n) c lo l)) := by
  intro c
  induction c with
  | zero =>
    intro p l last lo m i h1 h2 h3 h4 h5 h6 h7
    refine Tells.step (fun k => by rw [spec_l1End.l0]) ?_
    refine Tells.neg (by omega) ?_
    refine Tells.to (Tells.now _) ?_
    unfold terms; rw [endv_some]; simp <;> omega
  | succ c ihc =>
    intro p l last lo m i h1 h2 h3 h4 h5 h6 h7
    have h2' := h2
    simp only [List.length_append] at h2'
    refine Tells.step (fun k => by rw [spec_l1End.l0]) ?_
    refine Tells.pos (by omega) ?_
    have bad : Tells (fun k => spec_l1End.j2 k (p ++ l) (p.length : Int) m last i true) (-1) := by
      refine Tells.step (fun k => by rw [spec_l1End.j2]) ?_
      exact Tells.pos rfl (Tells.now _)
    cases l with
    | nil =>
      refine Tells.pos (by simp) ?_
      refine Tells.to bad ?_
      unfold terms; rfl
    | cons t l =>
      simp only [List.length_cons] at h1 h2'
      refine Tells.neg (by simp; omega) ?_
      refine Tells.pos (by omega) ?_
      refine Tells.pos (by simp; omega) ?_
      rw [rd_p]
      refine Tells.bind (Tells.const (l1In_eq t 1 9999)) ?_
      rw [terms]
      by_cases ht : 1 ≤ t ∧ t ≤ 9999
      · rw [if_pos ht, decide_eq_true ht]
        refine Tells.step (fun k => by rw [spec_l1End.j2]) ?_
        refine Tells.neg (by simp) ?_
        rw [wrap_id (i := (p.length : Int) + 1) (by omega) (by omega)]
        have hf := ih (p ++ [t]) l (by omega) (by simp; omega)
        rw [← snoc p l t, show ((p ++ [t]).length : Int) = (p.length : Int) + 1 by simp] at hf
        refine Tells.bind hf ?_
        cases hk : take n l with
        | none =>
          rw [endv_none]
          exact Tells.pos (by omega) (Tells.now _)
        | some q =>
          obtain ⟨e, l1⟩ := q
          rw [endv_some]
          simp only
          obtain ⟨a1, a2, a3⟩ := take_good _ _ _ _ hk
          have hlen := take_len hk
          have hre := row_length e
          have hl : (l.length : Int) = (row e).length + l1.length := by rw [a1]; simp
          have hend : (((p ++ t :: l).length : Nat) : Int) - l1.length = (p.length : Int) + 1 + (row e).length := by simp; omega
          rw [hend]
          refine Tells.neg (by omega) ?_
          have hcut : (((p ++ t :: l).take ((p.length : Int) + 1 + ((row e).length : Int)).toNat).drop ((p.length : Int) + 1).toNat) = row e := by
            rw [show ((p.length : Int) + 1 + ((row e).length : Int)).toNat = (p ++ [t]).length + (row e).length by simp; omega, show ((p.length : Int) + 1).toNat = (p ++ [t]).length by simp <;> omega, a1, show p ++ t :: (row e ++ l1) = (p ++ [t]) ++ (row e ++ l1) by simp, List.take_length_add_append, List.take_left, List.drop_left]
          have go : Tells (fun k => spec_l1End.l0 k (p ++ t :: l) ((p.length : Int) + 1 + (row e).length) m (row e) (wrap64 (i + 1)))
              (endv (((p ++ t :: l).length : Nat) : Int) (match terms (take n) c (some e) l1 with | none => none | some (r, l'') => some ((⟨t, e⟩ : Tm) :: r, l''))) := by
            rw [wrap_id (by omega) (by omega)]
            have := ihc (p ++ (t :: row e)) l1 (row e) (some e) m (i + 1) (by omega) (by rw [a1] at h2; simp at h2 ⊢; omega) (by omega) (by omega) h5 (fun h => by omega) (fun _ => ⟨e, rfl, rfl, by omega⟩)
            rw [show (p ++ (t :: row e)) ++ l1 = p ++ t :: l by rw [a1]; simp, show ((p ++ (t :: row e)).length : Int) = (p.length : Int) + 1 + (row e).length by simp; omega] at this
            refine Tells.to this ?_
            cases terms (take n) c (some e) l1 with
            | none => rfl
            | some q => obtain ⟨r, l2⟩ := q; rfl
          by_cases hi : i > 0
          · obtain ⟨f, hlo, hlast, hsf⟩ := h7 hi
            subst hlo; subst hlast
            refine Tells.pos hi ?_
            refine Tells.pos (by omega) ?_
            refine Tells.pos (by omega) ?_
            refine Tells.pos (by simp; omega) ?_
            rw [hcut]
            refine Tells.bind (specCompare_ev (by omega) (by omega)) ?_
            by_cases hc : cmp e f ≥ 0
            · refine Tells.pos hc ?_
              have : late (some f) e = true := by unfold late; simp only [decide_eq_true_eq]; exact hc
              rw [if_pos this]
              exact Tells.now _
            · refine Tells.neg hc ?_
              have : ¬ late (some f) e = true := by unfold late; simp only [decide_eq_true_eq]; exact hc
              rw [if_neg this]
              exact go
          · have hlo := h6 (by omega)
            subst hlo
            refine Tells.neg hi ?_
            refine Tells.pos (by omega) ?_
            refine Tells.pos (by omega) ?_
            refine Tells.pos (by simp; omega) ?_
            rw [hcut]
            have : ¬ late none e = true := by unfold late; simp
            rw [if_neg this]
            exact go
      · rw [if_neg ht, decide_eq_false ht]
        exact bad
theorem end_ev : ∀ (n : Nat) (p l : List Int), l.length < n → (((p ++ l).length : Nat) : Int) ≤ 100000000 → Tells (fun k => spec_l1End.f k (p ++ l) (p.length : Int)) (endv ((p ++ l).length : Int) (take n l)) := by
  intro n
  induction n with
  | zero => intro p l h; omega
  | succ n ih =>
    intro p l h h2
    have h2' := h2
    simp only [List.length_append] at h2'
    have bad : Tells (fun k => spec_l1End.j0 k (p ++ l) (p.length : Int) true) (-1) := by
      refine Tells.step (fun k => by rw [spec_l1End.j0]) ?_
      exact Tells.pos rfl (Tells.now _)
    refine Tells.step (fun k => by rw [spec_l1End.f]) ?_
    cases l with
    | nil =>
      refine Tells.pos (by simp) ?_
      refine Tells.to bad ?_
      unfold take; rfl
    | cons m l =>
      simp only [List.length_cons] at h h2'
      refine Tells.neg (by simp; omega) ?_
      refine Tells.pos (by omega) ?_
      refine Tells.pos (by simp; omega) ?_
      rw [rd_p]
      refine Tells.bind (Tells.const (l1In_eq m 0 60)) ?_
      rw [take]
      by_cases hm : 0 ≤ m ∧ m ≤ 60
      · rw [if_pos hm, decide_eq_true hm]
        refine Tells.step (fun k => by rw [spec_l1End.j0]) ?_
        refine Tells.neg (by simp) ?_
        refine Tells.pos (by omega) ?_
        refine Tells.pos (by simp; omega) ?_
        rw [rd_p, wrap_id (by omega) (by omega)]
        have := end_l ih m.toNat (p ++ [m]) l [] none m 0 (by omega) (by simp; omega) (by omega) (by omega) (by omega) (fun _ => rfl) (fun h => by omega)
        rw [← snoc p l m, show ((p ++ [m]).length : Int) = (p.length : Int) + 1 by simp] at this
        exact this
      · rw [if_neg hm, decide_eq_false hm]
        exact bad
theorem ordValid_ev {l : List Int} (h : (l.length : Int) ≤ 100000000) : Tells (fun k => spec_OrdValid.f k l) (ordOf l).isSome := by
  refine Tells.bind (Tells.const (l1In_eq _ 1 60)) ?_
  unfold ordOf
  by_cases hl : 1 ≤ l.length ∧ l.length ≤ 60
  · rw [if_pos hl]
    refine Tells.pos (decide_eq_true (by omega)) ?_
    refine Tells.bind (end_ev 61 [] l (by omega) (by simpa using h)) ?_
    refine Tells.to (Tells.now _) ?_
    simp only [List.nil_append]
    cases take 61 l with
    | none => rw [endv_none]; simp <;> omega
    | some q =>
      obtain ⟨x, l'⟩ := q
      rw [endv_some]
      cases l' with
      | nil => simp
      | cons a l' => simp; omega
  · rw [if_neg hl]
    refine Tells.neg (by simp; omega) ?_
    exact Tells.now _
theorem row_inj' : ∀ (x y : O) (a b : List Int), row x ++ a = row y ++ b → x = y ∧ a = b := by
  have fl : ∀ (x y : O) (a b : List Int), x.length = y.length → flat x ++ a = flat y ++ b → x = y ∧ a = b := by
    intro x
    induction x using ind with
    | h0 =>
      intro y a b h1 h2
      cases y with
      | nil => exact ⟨rfl, by simpa [flat_nil] using h2⟩
      | cons _ _ => simp at h1
    | h1 c e r ihe ihr =>
      intro y a b h1 h2
      cases y with
      | nil => simp at h1
      | cons t s =>
        obtain ⟨d, f⟩ := t
        rw [flat_cons, flat_cons] at h2
        unfold row at h2
        simp only [List.cons_append, List.append_assoc, List.cons.injEq] at h2
        obtain ⟨h3, h4, h5⟩ := h2
        obtain ⟨h6, h7⟩ := ihe f _ _ (by omega) h5
        obtain ⟨h8, h9⟩ := ihr s _ _ (by simpa using h1) h7
        subst h3; subst h6; subst h8
        exact ⟨rfl, h9⟩
  intro x y a b h
  unfold row at h
  simp only [List.cons_append, List.cons.injEq] at h
  exact fl x y a b (by omega) h.2
theorem ordOf_row' (x : O) : ordOf (row x) = some x ∨ (ordOf (row x) = none ∧ ¬ Vd x) := by
  cases h : ordOf (row x) with
  | none => exact .inr ⟨rfl, fun hv => by rw [ordOf_row hv] at h; cases h⟩
  | some y =>
    obtain ⟨h1, h2⟩ := ordOf_some h
    have := row_inj' x y [] [] (by rw [h1])
    rw [this.1]; exact .inl rfl
end Go.Proofs.Ytogaeadigmgcoaa.P
