/- Numbers in a base: the program's and the reference's ordinals of a number are one and the same, the one whose numbers are less than the base and whose value is the number. -/
import Derived.Test.YtogaeadigmgcoaaP0
import Derived.Test.YtogaeadigmgcoaaMath
import Derived.Test.YtogaeadigmgcoaaPspecl4Ord
import Derived.Test.YtogaeadigmgcoaaPimplinBase
import Derived.Test.YtogaeadigmgcoaaPimpldigits
import Derived.Test.YtogaeadigmgcoaaPspecOrdInBase
import Derived.Test.YtogaeadigmgcoaaPimplOrdInBase
import Derived.Test.YtogaeadigmgcoaaQA
import Derived.Test.YtogaeadigmgcoaaQB
namespace Go.Proofs.Ytogaeadigmgcoaa.P
open OM Go.RowKit Go.Proofs.YtogaeadigmgcoaaW.PrintWords Go.Proofs.YtogaeadigmgcoaaW.PrintLast Go.Proofs.YtogaeadigmgcoaaW.PrintMore
set_option linter.unusedVariables false

/-! #### plain arithmetic -/
theorem tdiv_ediv {a b : Int} (ha : 0 ≤ a) : Int.tdiv a b = a / b := Int.tdiv_eq_ediv_of_nonneg ha
theorem tmod_emod {a b : Int} (ha : 0 ≤ a) : Int.tmod a b = a % b := Int.tmod_eq_emod_of_nonneg ha
theorem pow_lt_iff {b : Int} (hb : 2 ≤ b) {j k : Nat} (h : b ^ j < b ^ k) : j < k := by
  by_cases g : j < k
  · exact g
  · have := pow_mono (n := b) (by omega) (show k ≤ j by omega)
    omega
theorem pow_step {b : Int} (j : Nat) : b ^ (j + 1) = b ^ j * b := Int.pow_succ b j
theorem pow_base {a b : Int} (h0 : 0 ≤ a) (h : a ≤ b) (n : Nat) : a ^ n ≤ b ^ n := by
  induction n with
  | zero => simp
  | succ n ih => rw [pow_step, pow_step]; exact Int.mul_le_mul ih h h0 (Int.le_trans (Int.pow_nonneg h0) ih)
theorem pow_gt {b : Int} (hb : 2 ≤ b) (j : Nat) : (j : Int) < b ^ j := by
  induction j with
  | zero => simp
  | succ j ih =>
    rw [pow_step]
    have h1 := pow_pos (n := b) (by omega) j
    have : b ^ j * 2 ≤ b ^ j * b := Int.mul_le_mul_of_nonneg_left hb (by omega)
    simp only [Int.natCast_succ]
    omega
theorem two_le_pow {b : Int} (hb : 2 ≤ b) (j : Nat) : (j : Int) + 1 ≤ b ^ j := pow_gt hb j
theorem NF_snoc {e : O} {d : Int} (hd : 1 ≤ d) (he : NF e) : ∀ {y : O}, NF y → (∀ y' t, y = y' ++ [t] → Lt e t.f1) → NF (y ++ [⟨d, e⟩]) := by
  intro y
  induction y with
  | nil => intro _ _; exact NF_cons.2 ⟨hd, he, NF_nil, trivial⟩
  | cons t r ih =>
    intro h1 h2
    obtain ⟨c, f⟩ := t
    obtain ⟨g1, g2, g3, g4⟩ := NF_cons.1 h1
    refine NF_cons.2 ⟨g1, g2, ih g3 (fun y' t h => h2 (⟨c, f⟩ :: y') t (by rw [h]; rfl)), ?_⟩
    cases r with
    | nil => exact h2 [] ⟨c, f⟩ rfl
    | cons u s => obtain ⟨g, k⟩ := u; exact g4
theorem most_append (x y : O) : most (x ++ y) = max (most x) (most y) := by
  induction x with
  | nil => rw [most_nil]; show most y = _; have := most_pos y; omega
  | cons t r ih => obtain ⟨c, e⟩ := t; show most (⟨c, e⟩ :: (r ++ y)) = _; rw [most_cons, most_cons, ih]; omega
/-- the ordinal of a number in a base -/
structure IB (b n : Int) (x : O) : Prop where
  nf : NF x
  most : most x < b
  val : val b x = n
  size : size x ≤ 2 * n + 1
theorem IB.uniq {b n : Int} {x y : O} (hb : 2 ≤ b) (hx : IB b n x) (hy : IB b n y) : x = y :=
  val_inj (by omega) hx.nf hy.nf hx.most hy.most (by rw [hx.val, hy.val])
theorem IB.lt {b n m : Int} {x y : O} (hb : 2 ≤ b) (hx : IB b n x) (hy : IB b m y) (h : n < m) : Lt x y := by
  show cmp x y = -1
  rw [val_cmp (by omega) hx.nf hy.nf hx.most hy.most, hx.val, hy.val, if_pos h]
/-- what has been told of a number: y, and n is left -/
structure Part (b N n : Int) (y : O) : Prop where
  nf : NF y
  most : most y < b
  val : OM.val b y + n = N
  size : size y + 2 * n ≤ 2 * N + 1
  last : ∀ y' t, y = y' ++ [t] → n < b ^ (OM.val b t.f1).toNat
theorem Part.start {b N : Int} (hb : 2 ≤ b) : Part b N N [] := ⟨NF_nil, by rw [most_nil]; omega, by rw [val_nil]; omega, by rw [size_nil]; omega, fun y' t h => by simp at h⟩
theorem Part.done {b N : Int} {y : O} (h : Part b N 0 y) : IB b N y := ⟨h.nf, h.most, by have := h.val; omega, by have := h.size; omega⟩
/-- one power more -/
theorem Part.step {b N n : Int} {y e : O} {j : Nat} (hb : 2 ≤ b) (h : Part b N n y) (hn : b ^ j ≤ n) (hn' : n < b ^ (j + 1)) (he : IB b (j : Int) e) : Part b N (n % b ^ j) (y ++ [⟨n / b ^ j, e⟩]) := by
  have hp := pow_pos (n := b) (by omega) j
  have hd1 : 1 ≤ n / b ^ j := by rw [Int.le_ediv_iff_mul_le (by omega)]; omega
  have hd2 : n / b ^ j < b := by
    rw [Int.ediv_lt_iff_lt_mul (by omega)]
    rw [pow_step, Int.mul_comm] at hn'
    exact hn'
  have hm := Int.mul_ediv_add_emod n (b ^ j)
  have hm0 := Int.emod_nonneg n (show b ^ j ≠ 0 by omega)
  have hm1 := Int.emod_lt_of_pos n (show 0 < b ^ j by omega)
  refine ⟨?_, ?_, ?_, ?_, ?_⟩
  · refine NF_snoc hd1 he.nf h.nf (fun y' t hy => ?_)
    obtain ⟨c, f⟩ := t
    have hl := h.last y' ⟨c, f⟩ hy
    have hf := NF_append_last (by rw [← hy]; exact h.nf)
    have hmf : OM.most f < b := by
      have := h.most
      rw [hy, most_append, most_cons] at this
      omega
    have hv := val_nonneg (n := b) (by omega) hf.2
    have hlt : j < (OM.val b f).toNat := pow_lt_iff hb (show b ^ j < _ by simp only at hl; omega)
    show cmp e f = -1
    rw [val_cmp (by omega) he.nf hf.2 he.most hmf, he.val, if_pos (by omega)]
  · have h1 := h.most
    have h2 := he.most
    rw [most_append, most_cons, most_nil]
    omega
  · rw [val_append, val_cons, val_nil, he.val, Int.toNat_natCast]
    have := h.val
    have : n / b ^ j * b ^ j = b ^ j * (n / b ^ j) := Int.mul_comm _ _
    omega
  · have h1 := h.size
    have h2 := he.size
    have h3 := pow_gt hb j
    have h4 : b ^ j ≤ b ^ j * (n / b ^ j) := by
      have := Int.mul_le_mul_of_nonneg_left hd1 (show 0 ≤ b ^ j by omega)
      omega
    rw [size_append, size_cons, size_nil]
    omega
  · intro y' t hy
    have := List.append_inj_right' hy rfl
    injection this with this
    rw [← this]
    show _ < b ^ (OM.val b e).toNat
    rw [he.val, Int.toNat_natCast]
    exact hm1

/-! #### the reference -/
theorem l4pow {b n : Int} (hb : 2 ≤ b) (hb' : b ≤ 90) (hn' : n ≤ 1000000000) {A : List Int} {B : List (List Int)} {r : List Int} :
    ∀ (d : Nat) (j : Nat), b ^ j ≤ n → (n - b ^ j).toNat < d → (∀ i : Nat, b ^ i ≤ n → n < b ^ (i + 1) → Tells (fun k => spec_l4Ord.l1 k n b A B (b ^ i) (i : Int)) r) → Tells (fun k => spec_l4Ord.l1 k n b A B (b ^ j) (j : Int)) r := by
  intro d
  induction d with
  | zero => intro j h1 h2 h3; omega
  | succ d ih =>
    intro j h1 h2 h3
    by_cases h : n < b ^ (j + 1)
    · exact h3 j h1 h
    · have hp := pow_pos (n := b) (by omega) j
      have hg := pow_gt hb j
      have hs := pow_step (b := b) j
      have hlt : b ^ j * 2 ≤ b ^ j * b := Int.mul_le_mul_of_nonneg_left hb (by omega)
      refine Tells.step (fun k => by rw [spec_l4Ord.l1]) ?_
      refine Tells.neg (by omega) ?_
      have hq : b ^ j ≤ n / b := by rw [Int.le_ediv_iff_mul_le (by omega)]; omega
      have hqn : n / b ≤ n := Int.ediv_le_self _ (by omega)
      rw [tdiv_ediv (by omega), wrap_id (i := n / b) (by omega) (by omega)]
      refine Tells.pos hq ?_
      have hbb : b ^ j * b ≤ n := by omega
      rw [wrap_id (i := b ^ j * b) (by omega) (by omega), wrap_id (i := (j : Int) + 1) (by omega) (by omega), ← hs]
      have := ih (j + 1) (by omega) (by omega) h3
      rw [show ((j + 1 : Nat) : Int) = (j : Int) + 1 by simp] at this
      exact this
theorem l4_l {b N : Int} (hb : 2 ≤ b) (hb' : b ≤ 90) (hN : N ≤ 1000000000) (ih : ∀ e : Int, 0 ≤ e → e < N → ∃ x, IB b e x ∧ Tells (fun k => spec_l4Ord.f k e b) (row x)) :
    ∀ (d : Nat) (n : Int) (y : O), 0 ≤ n → n.toNat < d → n ≤ N → Part b N n y → (y.length : Int) + n ≤ 2000000000 → ∃ x, IB b N x ∧ Tells (fun k => spec_l4Ord.l0 k n b (cs y) (es y)) (row x) := by
  intro d
  induction d with
  | zero => intro n y h0 h1; omega
  | succ d ihd =>
    intro n y h0 h1 hnN hp hl
    by_cases h : n > 0
    · obtain ⟨j, hj1, hj2⟩ : ∃ j : Nat, b ^ j ≤ n ∧ n < b ^ (j + 1) := by
        have : ∀ (m : Nat), (∃ j : Nat, b ^ j ≤ n ∧ n < b ^ (j + 1)) ∨ b ^ m ≤ n := by
          intro m
          induction m with
          | zero => exact .inr (by simp; omega)
          | succ m ihm =>
            rcases ihm with h | h
            · exact .inl h
            · by_cases g : n < b ^ (m + 1)
              · exact .inl ⟨m, h, g⟩
              · exact .inr (by omega)
        rcases this n.toNat with h | h
        · exact h
        · have := pow_gt hb n.toNat; omega
      have hg := pow_gt hb j
      obtain ⟨e, he, hte⟩ := ih (j : Int) (by omega) (by omega)
      have hp' := hp.step hb hj1 hj2 he
      have hpp := pow_pos (n := b) (by omega) j
      have hm0 := Int.emod_nonneg n (show b ^ j ≠ 0 by omega)
      have hm1 := Int.emod_lt_of_pos n (show 0 < b ^ j by omega)
      have hdn : n / b ^ j ≤ n := Int.ediv_le_self _ (by omega)
      have hd0 : 0 ≤ n / b ^ j := Int.ediv_nonneg (by omega) (by omega)
      obtain ⟨x, hx, htx⟩ := ihd (n % b ^ j) (y ++ [⟨n / b ^ j, e⟩]) hm0 (by omega) (by omega) hp' (by simp; omega)
      refine ⟨x, hx, ?_⟩
      refine Tells.step (fun k => by rw [spec_l4Ord.l0]) ?_
      refine Tells.pos h ?_
      have := l4pow (A := cs y) (B := es y) (r := row x) hb hb' (by omega) (n.toNat + 1) 0 (n := n) (by simp; omega) (by simp; omega) (fun i hi1 hi2 => ?_)
      · simpa using this
      · have hij : i = j := by
          have h1 := pow_lt_iff hb (show b ^ i < b ^ (j + 1) by omega)
          have h2 := pow_lt_iff hb (show b ^ j < b ^ (i + 1) by omega)
          omega
        subst hij
        have hp := pow_pos (n := b) (by omega) i
        have hs := pow_step (b := b) i
        have hq : ¬ b ^ i ≤ n / b := by
          intro hc
          rw [Int.le_ediv_iff_mul_le (by omega)] at hc; omega
        have hqn : n / b ≤ n := Int.ediv_le_self _ (by omega)
        have hq0 : 0 ≤ n / b := Int.ediv_nonneg (by omega) (by omega)
        refine Tells.step (fun k => by rw [spec_l4Ord.l1]) ?_
        refine Tells.neg (by omega) ?_
        rw [tdiv_ediv (by omega), wrap_id (i := n / b) (by omega) (by omega)]
        refine Tells.neg hq ?_
        refine Tells.neg (by omega) ?_
        refine Tells.pos (by rw [cs_length]; omega) ?_
        refine Tells.bind hte ?_
        refine Tells.pos (by rw [es_length]; omega) ?_
        rw [tmod_emod (by omega), tdiv_ediv (by omega), wrap_id (by omega) (by omega)]
        rw [show cs y ++ [n / b ^ i] = cs (y ++ [⟨n / b ^ i, e⟩]) by rw [cs_append]; rfl, show es y ++ [row e] = es (y ++ [⟨n / b ^ i, e⟩]) by rw [es_append]; rfl]
        exact htx
    · have h0' : n = 0 := by omega
      subst h0'
      have hx := hp.done
      refine ⟨y, hx, ?_⟩
      refine Tells.step (fun k => by rw [spec_l4Ord.l0]) ?_
      refine Tells.neg h ?_
      have := hx.size
      exact Tells.bind (make_ev (by omega)) (Tells.now _)
theorem l4Ord_ev {b : Int} (hb : 2 ≤ b) (hb' : b ≤ 90) : ∀ (d : Nat) (N : Int), 0 ≤ N → N.toNat < d → N ≤ 1000000000 → ∃ x, IB b N x ∧ Tells (fun k => spec_l4Ord.f k N b) (row x) := by
  intro d
  induction d with
  | zero => intro N h0 h1; omega
  | succ d ih =>
    intro N h0 h1 h2
    obtain ⟨x, hx, ht⟩ := l4_l hb hb' h2 (fun e he0 he1 => ih e he0 (by omega) (by omega)) (N.toNat + 1) N [] h0 (by omega) (by omega) (Part.start hb) (by simp; omega)
    exact ⟨x, hx, Tells.step (fun k => by rw [spec_l4Ord.f]; rfl) ht⟩

/-! #### digits -/
def dval (b : Int) : List Int → Int
  | [] => 0
  | d :: l => d + b * dval b l
theorem dval_append (b : Int) (l m : List Int) : dval b (l ++ m) = dval b l + b ^ l.length * dval b m := by
  induction l with
  | nil => simp [dval]
  | cons d l ih => simp only [List.cons_append, dval, ih, List.length_cons, pow_step, Int.mul_add, ← Int.mul_assoc]; rw [Int.mul_comm b (b ^ l.length)]; omega
structure Digs (b n : Int) (ds : List Int) : Prop where
  lo : ∀ d ∈ ds, 0 ≤ d ∧ d < b
  val : dval b ds = n
  top : ∀ ds' d, ds = ds' ++ [d] → 1 ≤ d
theorem dval_lt {b : Int} (hb : 2 ≤ b) : ∀ (l : List Int), (∀ d ∈ l, 0 ≤ d ∧ d < b) → 0 ≤ dval b l ∧ dval b l < b ^ l.length := by
  intro l
  induction l with
  | nil => intro _; simp [dval]
  | cons d l ih =>
    intro h
    obtain ⟨h1, h2⟩ := ih (fun x hx => h x (by simp [hx]))
    have hd := h d (by simp)
    have hm : 0 ≤ b * dval b l := Int.mul_nonneg (by omega) h1
    have hm2 : b * (dval b l + 1) ≤ b * b ^ l.length := Int.mul_le_mul_of_nonneg_left (by omega) (by omega)
    rw [Int.mul_add] at hm2
    simp only [dval, List.length_cons, pow_step]
    rw [Int.mul_comm (b ^ l.length) b]
    omega
theorem digits_l {b : Int} (hb : 2 ≤ b) (hb' : b ≤ 90) : ∀ (d : Nat) (n : Int) (acc : List Int), 0 ≤ n → n.toNat < d → n ≤ 1000000000 → (acc.length : Int) + n ≤ 2000000000 →
    ∃ ds, Digs b n ds ∧ (ds.length : Int) ≤ n ∧ Tells (fun k => impl_digits.l0 k n b acc) (acc ++ ds) := by
  intro d
  induction d with
  | zero => intro n acc h0 h1; omega
  | succ d ih =>
    intro n acc h0 h1 h2 h3
    by_cases h : n > 0
    · have hq0 : 0 ≤ n / b := Int.ediv_nonneg (by omega) (by omega)
      have hqlt : n / b < n := Int.ediv_lt_of_lt_mul (by omega) (by have := Int.mul_le_mul_of_nonneg_left hb (show 0 ≤ n by omega); omega)
      have hm0 := Int.emod_nonneg n (show b ≠ 0 by omega)
      have hm1 := Int.emod_lt_of_pos n (show 0 < b by omega)
      have hme := Int.mul_ediv_add_emod n b
      obtain ⟨ds, hds, hlen, ht⟩ := ih (n / b) (acc ++ [n % b]) hq0 (by omega) (by omega) (by simp; omega)
      refine ⟨n % b :: ds, ⟨?_, ?_, ?_⟩, by simp; omega, ?_⟩
      · intro x hx
        rcases List.mem_cons.1 hx with hx | hx
        · subst hx; exact ⟨hm0, hm1⟩
        · exact hds.lo x hx
      · simp only [dval, hds.val]; omega
      · intro ds' t ht
        cases ds' with
        | nil =>
          have : n % b = t ∧ ds = [] := by simpa using ht
          have hv := hds.val
          rw [this.2] at hv
          simp [dval] at hv
          rw [← hv] at hme
          omega
        | cons u v =>
          have : n % b = u ∧ ds = v ++ [t] := by simpa using ht
          exact hds.top v t this.2
      · refine Tells.step (fun k => by rw [impl_digits.l0]) ?_
        refine Tells.pos h ?_
        refine Tells.neg (by omega) ?_
        refine Tells.pos (by omega) ?_
        rw [tdiv_ediv (by omega), tmod_emod (by omega), wrap_id (by omega) (by omega)]
        refine Tells.to ht (by simp)
    · have h0' : n = 0 := by omega
      subst h0'
      refine ⟨[], ⟨fun d hd => by simp at hd, rfl, fun ds' d h => by simp at h⟩, by simp, ?_⟩
      refine Tells.step (fun k => by rw [impl_digits.l0]) ?_
      exact Tells.neg h (Tells.to (Tells.now _) (by simp))
theorem digits_ev {b n : Int} (hb : 2 ≤ b) (hb' : b ≤ 90) (h0 : 0 ≤ n) (hn : n ≤ 1000000000) : ∃ ds, Digs b n ds ∧ (ds.length : Int) ≤ n ∧ Tells (fun k => impl_digits.f k n b) ds := by
  obtain ⟨ds, h1, h2, h3⟩ := digits_l hb hb' (n.toNat + 1) n [] h0 (by omega) hn (by simp; omega)
  exact ⟨ds, h1, h2, h3⟩
theorem Digs.len {b n : Int} {ds : List Int} (hb : 2 ≤ b) (h : Digs b n ds) (hne : ds ≠ []) : b ^ (ds.length - 1) ≤ n := by
  rcases List.eq_nil_or_concat ds with h' | ⟨l, t, h'⟩
  · exact absurd h' hne
  · rw [List.concat_eq_append] at h'
    have ht := h.top l t h'
    have hv := h.val
    rw [h', dval_append] at hv
    have hl := dval_lt hb l (fun d hd => h.lo d (by rw [h']; simp [hd]))
    have hp := pow_pos (n := b) (by omega) l.length
    have : b ^ l.length * 1 ≤ b ^ l.length * t := Int.mul_le_mul_of_nonneg_left ht (by omega)
    rw [h']
    simp [dval] at hv ⊢
    omega

/-! #### the program -/
theorem inBase_l {b N : Int} (hb : 2 ≤ b) (hb' : b ≤ 90) (hN : N ≤ 1000000000) (ih : ∀ e : Int, 0 ≤ e → e < N → ∃ x, IB b e x ∧ Tells (fun k => impl_inBase.f k e b) x) :
    ∀ (lo hi : List Int) (y : O), (∀ d ∈ lo, 0 ≤ d ∧ d < b) → (∀ i : Nat, i < lo.length → (i : Int) < N) → Part b N (dval b lo) y → (y.length : Int) + lo.length ≤ 2000000000 →
      ∃ x, IB b N x ∧ Tells (fun k => impl_inBase.l0 k b y (lo ++ hi) ((lo.length : Int) - 1)) x := by
  intro lo
  induction h : lo.length generalizing lo with
  | zero =>
    intro hi y h1 h2 hp hl
    have : lo = [] := List.eq_nil_of_length_eq_zero h
    subst this
    have hp0 : Part b N 0 y := hp
    have hx := hp0.done
    refine ⟨y, hx, ?_⟩
    refine Tells.step (fun k => by rw [impl_inBase.l0]) ?_
    exact Tells.neg (by simp) (Tells.now _)
  | succ n ihn =>
    intro hi y h1 h2 hp hl
    rcases List.eq_nil_or_concat lo with h' | ⟨l, t, h'⟩
    · rw [h'] at h; simp at h
    · rw [List.concat_eq_append] at h'
      subst h'
      have hln : l.length = n := by simpa using h
      have ht := h1 t (by simp)
      have hv : dval b (l ++ [t]) = dval b l + b ^ n * t := by rw [dval_append, hln]; simp [dval]
      have hll := dval_lt hb l (fun d hd => h1 d (by simp [hd]))
      rw [hln] at hll
      have hpp := pow_pos (n := b) (by omega) n
      have hnN := h2 n (by omega)
      have hrd : rd ((l ++ [t]) ++ hi) ((n : Int) + 1 - 1) = t := by
        rw [List.append_assoc]; exact rd_mid l hi t (by omega)
      have htp : 0 ≤ b ^ n * t := Int.mul_nonneg (by omega) (by omega)
      have fin : ∀ y', Part b N (dval b l) y' → (y'.length : Int) + n ≤ 2000000000 → ∃ x, IB b N x ∧ Tells (fun k => impl_inBase.l0 k b y' ((l ++ [t]) ++ hi) (wrap64 ((n : Int) + 1 - 1 - 1))) x := by
        intro y' hp' hl'
        rw [wrap_id (by omega) (by omega), List.append_assoc]
        have := ihn l hln ([t] ++ hi) y' (fun d hd => h1 d (by simp [hd])) (fun i hi => h2 i (by omega)) hp' (by omega)
        rw [show (n : Int) + 1 - 1 - 1 = (n : Int) - 1 by omega]
        exact this
      by_cases hz : t > 0
      · obtain ⟨e, he, hte⟩ := ih (n : Int) (by omega) hnN
        have hn1 : b ^ n ≤ dval b (l ++ [t]) := by
          have : b ^ n * 1 ≤ b ^ n * t := Int.mul_le_mul_of_nonneg_left (by omega) (by omega)
          omega
        have hn2 : dval b (l ++ [t]) < b ^ (n + 1) := by
          have : b ^ n * (t + 1) ≤ b ^ n * b := Int.mul_le_mul_of_nonneg_left (by omega) (by omega)
          rw [Int.mul_add] at this
          rw [pow_step]; omega
        have hp' := hp.step hb hn1 hn2 he
        have hmod : dval b (l ++ [t]) % b ^ n = dval b l := by
          rw [hv, Int.add_mul_emod_self_left, Int.emod_eq_of_lt hll.1 hll.2]
        have hdiv : dval b (l ++ [t]) / b ^ n = t := by
          rw [hv, Int.add_mul_ediv_left _ _ (show b ^ n ≠ 0 by omega), Int.ediv_eq_zero_of_lt hll.1 hll.2]; omega
        rw [hmod, hdiv] at hp'
        obtain ⟨x, hx, htx⟩ := fin (y ++ [⟨t, e⟩]) hp' (by simp; omega)
        refine ⟨x, hx, ?_⟩
        refine Tells.step (fun k => by rw [impl_inBase.l0]) ?_
        refine Tells.pos (by simp <;> omega) ?_
        refine Tells.pos (by simp <;> omega) ?_
        refine Tells.pos (by simp <;> omega) ?_
        rw [show (((n + 1 : Nat) : Int) - 1) = (n : Int) + 1 - 1 by simp, hrd]
        refine Tells.pos hz ?_
        rw [show (n : Int) + 1 - 1 = (n : Int) by omega]
        refine Tells.bind hte ?_
        refine Tells.pos (by omega) ?_
        rw [show (n : Int) + 1 - 1 - 1 = (n : Int) - 1 by omega] at htx
        exact htx
      · have ht0 : t = 0 := by omega
        subst ht0
        have hp' : Part b N (dval b l) y := by rw [hv] at hp; simpa using hp
        obtain ⟨x, hx, htx⟩ := fin y hp' (by omega)
        refine ⟨x, hx, ?_⟩
        refine Tells.step (fun k => by rw [impl_inBase.l0]) ?_
        refine Tells.pos (by simp <;> omega) ?_
        refine Tells.pos (by simp <;> omega) ?_
        refine Tells.pos (by simp <;> omega) ?_
        rw [show (((n + 1 : Nat) : Int) - 1) = (n : Int) + 1 - 1 by simp, hrd]
        refine Tells.neg (by omega) ?_
        exact htx
theorem inBase_ev {b : Int} (hb : 2 ≤ b) (hb' : b ≤ 90) : ∀ (d : Nat) (N : Int), 0 ≤ N → N.toNat < d → N ≤ 1000000000 → ∃ x, IB b N x ∧ Tells (fun k => impl_inBase.f k N b) x := by
  intro d
  induction d with
  | zero => intro N h0 h1; omega
  | succ d ih =>
    intro N h0 h1 h2
    obtain ⟨ds, hds, hlen, hd⟩ := digits_ev hb hb' h0 h2
    have hlt : ∀ i : Nat, i < ds.length → (i : Int) < N := by intro i hi; omega
    have hp : Part b N (dval b ds) [] := by rw [hds.val]; exact Part.start hb
    obtain ⟨x, hx, ht⟩ := inBase_l hb hb' h2 (fun e he0 he1 => ih e he0 (by omega) (by omega)) ds [] [] hds.lo hlt hp (by simp; omega)
    refine ⟨x, hx, ?_⟩
    refine Tells.step (fun k => by rw [impl_inBase.f]) ?_
    refine Tells.bind hd ?_
    rw [wrap_id (by omega) (by omega)]
    rw [List.append_nil] at ht
    exact ht
/-- both tell one ordinal -/
theorem both_inBase {b N : Int} (hb : 2 ≤ b) (hb' : b ≤ 90) (h0 : 0 ≤ N) (hN : N ≤ 1000000000) : ∃ x, IB b N x ∧ Tells (fun k => impl_inBase.f k N b) x ∧ Tells (fun k => spec_l4Ord.f k N b) (row x) := by
  obtain ⟨x, hx, h1⟩ := inBase_ev hb hb' (N.toNat + 1) N h0 (by omega) hN
  obtain ⟨y, hy, h2⟩ := l4Ord_ev hb hb' (N.toNat + 1) N h0 (by omega) hN
  have := IB.uniq hb hx hy
  subst this
  exact ⟨x, hx, h1, h2⟩
end Go.Proofs.Ytogaeadigmgcoaa.P
