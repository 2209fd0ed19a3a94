/- What the reference's functions on rows come to, on the rows of ordinals, with rounds enough. -/
import Derived.Test.YtogaeadigmgcoaaP0
import Derived.Test.YtogaeadigmgcoaaMath
import Derived.Test.YtogaeadigmgcoaaPspecl1In
import Derived.Test.YtogaeadigmgcoaaPspecl1Span
import Derived.Test.YtogaeadigmgcoaaPspecl1Terms
import Derived.Test.YtogaeadigmgcoaaPspecl1Compare
import Derived.Test.YtogaeadigmgcoaaPspecl1Make
import Derived.Test.YtogaeadigmgcoaaQA
namespace Go.Proofs.Ytogaeadigmgcoaa.P
open OM Go.RowKit Go.Proofs.YtogaeadigmgcoaaW.PrintWords Go.Proofs.YtogaeadigmgcoaaW.PrintLast Go.Proofs.YtogaeadigmgcoaaW.PrintMore
set_option linter.unusedVariables false

/-! #### lists -/
theorem l1In_eq (a lo hi : Int) : spec_l1In.f a lo hi = some (decide (lo ≤ a ∧ a ≤ hi)) := by
  unfold spec_l1In.f
  split
  · next h => congr 1; by_cases g : a ≤ hi <;> simp [h, g] <;> omega
  · next h => congr 1; simp; omega
/-! #### the rows of ordinals: where they end, their terms -/
theorem span_l : ∀ (r : O) (p s : List Int) (m i : Int), m = i + r.length → 0 ≤ i → m ≤ 20000000000 → (((p ++ (flat r ++ s)).length : Nat) : Int) ≤ 10000000000 → Tells (fun k => spec_l1Span.l0 k (p ++ (flat r ++ s)) (p.length : Int) m i) ((p.length : Int) + (flat r).length) := by
  intro r
  induction r using ind with
  | h0 =>
    intro p s m i h1 h2 hm h3
    refine Tells.step (fun k => by rw [spec_l1Span.l0]) ?_
    refine Tells.neg (by simp at h1; omega) ?_
    refine Tells.to (Tells.now _) ?_
    rw [flat_nil]; simp
  | h1 c e r ihe ihr =>
    intro p s m i h1 h2 hm h3
    have h3' := h3
    rw [flat_cons] at h3' ⊢
    have hre : row e = (e.length : Int) :: flat e := rfl
    simp only [List.length_append, List.length_cons] at h3' h1
    rw [hre] at h3'
    simp only [List.length_append, List.length_cons] at h3'
    have hle := length_le_size e
    have hfe := flat_length e
    have hlr := length_le_size r
    have hfr := flat_length r
    refine Tells.step (fun k => by rw [spec_l1Span.l0]) ?_
    refine Tells.pos (by omega) ?_
    rw [wrap_id (i := (p.length : Int) + 1) (by omega) (by omega), wrap_id (i := i + 1) (by omega) (by omega)]
    have hsp : Tells (fun k => spec_l1Span.f k (p ++ ((c :: (row e ++ flat r)) ++ s)) ((p.length : Int) + 1)) ((p.length : Int) + 1 + (row e).length) := by
      refine Tells.step (fun k => by rw [spec_l1Span.f]) ?_
      refine Tells.pos (by omega) ?_
      refine Tells.pos (by simp [hre]; omega) ?_
      have hsplit : p ++ ((c :: (row e ++ flat r)) ++ s) = (p ++ [c]) ++ ((e.length : Int) :: (flat e ++ (flat r ++ s))) := by rw [hre]; simp
      rw [hsplit, rd_mid (p ++ [c]) _ (e.length : Int) (by simp), wrap_id (by omega) (by omega)]
      have := ihe (p ++ [c] ++ [(e.length : Int)]) (flat r ++ s) (e.length : Int) 0 (by omega) (by omega) (by omega) (by simp; omega)
      rw [show ((p ++ [c] ++ [(e.length : Int)]).length : Int) = (p.length : Int) + 1 + 1 by simp; omega] at this
      rw [snoc (p ++ [c])]
      refine Tells.to this ?_
      rw [hre]; simp only [List.length_cons]; omega
    refine Tells.bind hsp ?_
    have hsplit : p ++ ((c :: (row e ++ flat r)) ++ s) = (p ++ (c :: row e)) ++ (flat r ++ s) := by simp
    rw [hsplit]
    have := ihr (p ++ (c :: row e)) s m (i + 1) (by omega) (by omega) hm (by rw [← hsplit, ← flat_cons]; exact h3)
    rw [show ((p ++ (c :: row e)).length : Int) = (p.length : Int) + 1 + (row e).length by simp; omega] at this
    refine Tells.to this ?_
    simp only [List.length_cons, List.length_append]; omega
theorem span_ev (x : O) (p s : List Int) (h : (((p ++ (row x ++ s)).length : Nat) : Int) ≤ 10000000000) : Tells (fun k => spec_l1Span.f k (p ++ (row x ++ s)) (p.length : Int)) ((p.length : Int) + (row x).length) := by
  have hre : row x = (x.length : Int) :: flat x := rfl
  have h' := h
  rw [hre] at h' ⊢
  simp only [List.length_append, List.length_cons] at h'
  have hle := length_le_size x
  have hfe := flat_length x
  refine Tells.step (fun k => by rw [spec_l1Span.f]) ?_
  refine Tells.pos (by omega) ?_
  refine Tells.pos (by simp; omega) ?_
  rw [show p ++ ((x.length : Int) :: flat x ++ s) = p ++ ((x.length : Int) :: (flat x ++ s)) by simp, rd_mid p _ (x.length : Int) rfl, wrap_id (by omega) (by omega)]
  have := span_l x (p ++ [(x.length : Int)]) s (x.length : Int) 0 (by omega) (by omega) (by omega) (by simp; omega)
  rw [show ((p ++ [(x.length : Int)]).length : Int) = (p.length : Int) + 1 by simp] at this
  rw [snoc p]
  refine Tells.to this ?_
  simp only [List.length_cons]; omega
def cs (x : O) : List Int := x.map (·.f0)
def es (x : O) : List (List Int) := x.map (fun t => row t.f1)
theorem cs_length (x : O) : (cs x).length = x.length := by simp [cs]
theorem es_length (x : O) : (es x).length = x.length := by simp [es]
theorem cs_cons (c : Int) (e r : O) : cs (⟨c, e⟩ :: r) = c :: cs r := rfl
theorem es_cons (c : Int) (e r : O) : es (⟨c, e⟩ :: r) = row e :: es r := rfl
theorem cs_append (x y : O) : cs (x ++ y) = cs x ++ cs y := by simp [cs]
theorem es_append (x y : O) : es (x ++ y) = es x ++ es y := by simp [es]
theorem terms_l : ∀ (r : O) (p : List Int) (A : List Int) (B : List (List Int)), ((p ++ flat r).length : Int) ≤ 10000000000 → (A.length : Int) + r.length ≤ 20000000000 → (B.length : Int) + r.length ≤ 20000000000 →
    Tells (fun k => spec_l1Terms.l0 k (p ++ flat r) A B (p.length : Int)) (A ++ cs r, B ++ es r) := by
  intro r
  induction r with
  | nil =>
    intro p A B h1 h2 h3
    refine Tells.step (fun k => by rw [spec_l1Terms.l0]) ?_
    refine Tells.neg (by rw [flat_nil]; simp) ?_
    refine Tells.to (Tells.now _) ?_
    simp [cs, es]
  | cons t r ih =>
    intro p A B h1 h2 h3
    obtain ⟨c, e⟩ := t
    have h1' := h1
    rw [flat_cons] at h1' ⊢
    simp only [List.length_append, List.length_cons] at h1' h2 h3
    refine Tells.step (fun k => by rw [spec_l1Terms.l0]) ?_
    refine Tells.pos (by simp; omega) ?_
    rw [wrap_id (i := (p.length : Int) + 1) (by omega) (by omega)]
    have hsplit : p ++ (c :: (row e ++ flat r)) = (p ++ [c]) ++ (row e ++ flat r) := by simp
    have hsp : Tells (fun k => spec_l1Span.f k (p ++ (c :: (row e ++ flat r))) ((p.length : Int) + 1)) ((p.length : Int) + 1 + (row e).length) := by
      rw [hsplit]
      have := span_ev e (p ++ [c]) (flat r) (by simp; omega)
      rw [show ((p ++ [c]).length : Int) = (p.length : Int) + 1 by simp] at this
      exact this
    refine Tells.bind hsp ?_
    refine Tells.pos (by omega) ?_
    refine Tells.pos (by omega) ?_
    refine Tells.pos (by omega) ?_
    refine Tells.pos (by omega) ?_
    refine Tells.pos (by simp; omega) ?_
    refine Tells.pos (by omega) ?_
    rw [rd_mid p _ c rfl]
    have hcut : (((p ++ (c :: (row e ++ flat r))).take ((p.length : Int) + 1 + ((row e).length : Int)).toNat).drop ((p.length : Int) + 1).toNat) = row e := by
      rw [show ((p.length : Int) + 1 + ((row e).length : Int)).toNat = (p ++ [c]).length + (row e).length by simp; omega, show ((p.length : Int) + 1).toNat = (p ++ [c]).length by simp <;> omega, hsplit, List.take_length_add_append, List.take_left, List.drop_left]
    rw [hcut, show p ++ (c :: (row e ++ flat r)) = (p ++ (c :: row e)) ++ flat r by simp]
    have := ih (p ++ (c :: row e)) (A ++ [c]) (B ++ [row e]) (by simp; omega) (by simp; omega) (by simp; omega)
    rw [show ((p ++ (c :: row e)).length : Int) = (p.length : Int) + 1 + (row e).length by simp; omega] at this
    refine Tells.to this ?_
    rw [cs_cons, es_cons]; simp
theorem terms_ev {x : O} (h : size x ≤ 10000000000) : Tells (fun k => spec_l1Terms.f k (row x)) (cs x, es x) := by
  have hl := row_length x
  have hz := length_le_size x
  have := terms_l x [(x.length : Int)] [] [] (by show (((row x).length : Nat) : Int) ≤ _; omega) (by simp; omega) (by simp; omega)
  exact this
theorem make_l : ∀ (r : O) (A : List Int) (B : List (List Int)) (acc : List Int), A.length = B.length → (A.length : Int) + r.length ≤ 10000000000 → (acc.length : Int) + (flat r).length ≤ 20000000000 →
    Tells (fun k => spec_l1Make.l0 k (A ++ cs r) (B ++ es r) acc (A.length : Int)) (acc ++ flat r) := by
  intro r
  induction r with
  | nil =>
    intro A B acc h1 h2 h3
    refine Tells.step (fun k => by rw [spec_l1Make.l0]) ?_
    refine Tells.neg (by simp [cs]) ?_
    refine Tells.to (Tells.now _) ?_
    rw [flat_nil, List.append_nil]
  | cons t r ih =>
    intro A B acc h1 h2 h3
    obtain ⟨c, e⟩ := t
    rw [flat_cons] at h3
    simp only [List.length_append, List.length_cons] at h2 h3
    rw [cs_cons, es_cons]
    refine Tells.step (fun k => by rw [spec_l1Make.l0]) ?_
    refine Tells.pos (by simp; omega) ?_
    refine Tells.pos (by omega) ?_
    refine Tells.pos (by omega) ?_
    refine Tells.sbind ?_
    refine Tells.pos (by simp; omega) ?_
    rw [rd_mid A _ c rfl, rdL_mid B _ (row e) (by rw [h1])]
    refine Tells.pos (by simp; omega) ?_
    rw [wrap_id (by omega) (by omega), snoc A, snoc B]
    have := ih (A ++ [c]) (B ++ [row e]) (acc ++ [c] ++ row e) (by simp [h1]) (by simp; omega) (by simp; omega)
    rw [show ((A ++ [c]).length : Int) = (A.length : Int) + 1 by simp] at this
    refine Tells.to this ?_
    rw [flat_cons]; simp
theorem make_ev {x : O} (h : size x ≤ 10000000000) : Tells (fun k => spec_l1Make.f k (cs x) (es x)) (row x) := by
  have hl := flat_length x
  have hz := length_le_size x
  have := make_l x [] [] [((cs x).length : Int)] rfl (by simp; omega) (by simp; omega)
  refine Tells.to this ?_
  rw [cs_length]; rfl
theorem make_ev' {x : O} {A : List Int} {B : List (List Int)} (hA : A = cs x) (hB : B = es x) (h : size x ≤ 10000000000) : Tells (fun k => spec_l1Make.f k A B) (row x) := by subst hA; subst hB; exact make_ev h

/-! #### comparing rows -/
theorem specCompare_l : ∀ (r : O) (p q s : O), p.length = q.length → size (p ++ r) ≤ 500000000 → size (q ++ s) ≤ 500000000 →
    Tells (fun k => spec_l1Compare.l0 k (cs (p ++ r)) (es (p ++ r)) (cs (q ++ s)) (es (q ++ s)) (p.length : Int)) (cmp r s) := by
  intro r
  induction r using ind with
  | h0 =>
    intro p q s hl h1 h2
    refine Tells.step (fun k => by rw [spec_l1Compare.l0]) ?_
    refine Tells.neg (by rw [cs_length]; simp) ?_
    refine Tells.step (fun k => by rw [spec_l1Compare.j1]) ?_
    refine Tells.neg (by simp) ?_
    cases s with
    | nil =>
      refine Tells.neg (by rw [cs_length, cs_length]; simp; omega) ?_
      refine Tells.neg (by rw [cs_length, cs_length]; simp; omega) ?_
      rw [cmp_nn]; exact Tells.now _
    | cons t s =>
      refine Tells.pos (by rw [cs_length, cs_length]; simp; omega) ?_
      rw [cmp_nc]; exact Tells.now _
  | h1 c e r ihe ihr =>
    intro p q s hl h1 h2
    have hp := length_le_size p
    refine Tells.step (fun k => by rw [spec_l1Compare.l0]) ?_
    refine Tells.pos (by rw [cs_length]; simp; omega) ?_
    refine Tells.step (fun k => by rw [spec_l1Compare.j1]) ?_
    cases s with
    | nil =>
      refine Tells.neg (by rw [cs_length]; simp; omega) ?_
      refine Tells.neg (by rw [cs_length, cs_length]; simp; omega) ?_
      refine Tells.pos (by rw [cs_length, cs_length]; simp; omega) ?_
      rw [cmp_cn]; exact Tells.now _
    | cons t s =>
      obtain ⟨d, f⟩ := t
      have z1 := h1
      have z2 := h2
      rw [size_append, size_cons] at z1 z2
      have := size_pos r
      have := size_pos s
      have := size_pos p
      have := size_pos q
      have := size_pos e
      have := size_pos f
      refine Tells.pos (by rw [cs_length]; simp; omega) ?_
      refine Tells.pos (by omega) ?_
      refine Tells.pos (by rw [es_length]; simp; omega) ?_
      refine Tells.pos (by rw [es_length]; simp; omega) ?_
      have he : rd_L1 (es (p ++ ⟨c, e⟩ :: r)) (p.length : Int) = row e := by rw [es_append, es_cons]; exact rdL_mid _ _ _ (by rw [es_length])
      have hf : rd_L1 (es (q ++ ⟨d, f⟩ :: s)) (p.length : Int) = row f := by rw [es_append, es_cons]; exact rdL_mid _ _ _ (by rw [es_length, hl])
      have hc : rd (cs (p ++ ⟨c, e⟩ :: r)) (p.length : Int) = c := by rw [cs_append, cs_cons]; exact rd_mid _ _ _ (by rw [cs_length])
      have hd : rd (cs (q ++ ⟨d, f⟩ :: s)) (p.length : Int) = d := by rw [cs_append, cs_cons]; exact rd_mid _ _ _ (by rw [cs_length, hl])
      rw [he, hf, hc, hd]
      have hef : Tells (fun k => spec_l1Compare.f k (row e) (row f)) (cmp e f) := by
        refine Tells.step (fun k => by rw [spec_l1Compare.f]) ?_
        refine Tells.bind (terms_ev (by omega)) ?_
        refine Tells.bind (terms_ev (by omega)) ?_
        exact ihe [] [] f rfl (by show size e ≤ _; omega) (by show size f ≤ _; omega)
      refine Tells.bind hef ?_
      rw [cmp_cc]
      by_cases z : cmp e f = 0
      · refine Tells.pos z ?_
        rw [if_pos z]
        refine Tells.pos (by rw [cs_length]; simp; omega) ?_
        refine Tells.pos (by rw [cs_length]; simp; omega) ?_
        by_cases a : c = d
        · refine Tells.pos a ?_
          rw [if_neg (by omega), if_neg (by omega), wrap_id (by omega) (by omega), snoc p, snoc q]
          have := ihr (p ++ [⟨c, e⟩]) (q ++ [⟨d, f⟩]) s (by simp [hl]) (by rw [← snoc]; exact h1) (by rw [← snoc]; exact h2)
          rw [show ((p ++ [(⟨c, e⟩ : Tm)]).length : Int) = (p.length : Int) + 1 by simp] at this
          exact this
        · refine Tells.neg a ?_
          by_cases b : c < d
          · refine Tells.pos b ?_
            rw [if_pos b]; exact Tells.now _
          · refine Tells.neg b ?_
            rw [if_neg b, if_pos (by omega)]; exact Tells.now _
      · refine Tells.neg z ?_
        rw [if_neg z]; exact Tells.now _
theorem specCompare_ev {x y : O} (hx : size x ≤ 500000000) (hy : size y ≤ 500000000) : Tells (fun k => spec_l1Compare.f k (row x) (row y)) (cmp x y) := by
  refine Tells.step (fun k => by rw [spec_l1Compare.f]) ?_
  refine Tells.bind (terms_ev (by omega)) ?_
  refine Tells.bind (terms_ev (by omega)) ?_
  exact specCompare_l x [] [] y rfl hx hy
end Go.Proofs.Ytogaeadigmgcoaa.P
