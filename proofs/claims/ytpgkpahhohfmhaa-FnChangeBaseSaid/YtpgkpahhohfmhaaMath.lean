/- The plain mathematics of ordinals in normal form, kept as lists of terms: their order, sums, products, differences, quotients, natural sums, steps and values. No program in sight. -/
import Derived.Test.YtpgkpahhohfmhaaTm
namespace OM
theorem ind {P : O → Prop} (h0 : P []) (h1 : ∀ c e r, P e → P r → P (⟨c, e⟩ :: r)) : ∀ x, P x
  | [] => h0
  | ⟨c, e⟩ :: r => h1 c e r (ind h0 h1 e) (ind h0 h1 r)

def cmp : O → O → Int
  | [], [] => 0
  | [], _ :: _ => -1
  | _ :: _, [] => 1
  | ⟨c, e⟩ :: r, ⟨d, f⟩ :: s => if cmp e f = 0 then (if c < d then -1 else if d < c then 1 else cmp r s) else cmp e f

theorem cmp_nn : cmp [] [] = 0 := by unfold cmp; rfl
theorem cmp_nc (t : Tm) (y : O) : cmp [] (t :: y) = -1 := by cases t; unfold cmp; rfl
theorem cmp_cn (t : Tm) (y : O) : cmp (t :: y) [] = 1 := by cases t; unfold cmp; rfl
theorem cmp_cc (c d : Int) (e r f s : O) : cmp (⟨c, e⟩ :: r) (⟨d, f⟩ :: s) = if cmp e f = 0 then (if c < d then -1 else if d < c then 1 else cmp r s) else cmp e f := by rw [cmp]

theorem cmp_range : ∀ x y : O, cmp x y = -1 ∨ cmp x y = 0 ∨ cmp x y = 1 := by
  intro x
  induction x using ind with
  | h0 => intro y; cases y with
    | nil => exact .inr (.inl cmp_nn)
    | cons t y => exact .inl (cmp_nc t y)
  | h1 c e r ihe ihr =>
    intro y; cases y with
    | nil => exact .inr (.inr (cmp_cn _ _))
    | cons t s =>
      obtain ⟨d, f⟩ := t
      rw [cmp_cc]
      have := ihe f
      have := ihr s
      split
      · split
        · exact .inl rfl
        · split
          · exact .inr (.inr rfl)
          · assumption
      · assumption

theorem cmp_self (x : O) : cmp x x = 0 := by
  induction x using ind with
  | h0 => exact cmp_nn
  | h1 c e r ihe ihr => rw [cmp_cc, if_pos ihe, if_neg (by omega), if_neg (by omega)]; exact ihr

theorem cmp_eq : ∀ {x y : O}, cmp x y = 0 → x = y := by
  intro x
  induction x using ind with
  | h0 => intro y h; cases y with
    | nil => rfl
    | cons t y => rw [cmp_nc] at h; omega
  | h1 c e r ihe ihr =>
    intro y h; cases y with
    | nil => rw [cmp_cn] at h; omega
    | cons t s =>
      obtain ⟨d, f⟩ := t
      rw [cmp_cc] at h
      split at h
      · next h1 =>
        split at h
        · omega
        · split at h
          · omega
          · rw [ihe h1, ihr h]; have : c = d := by omega
            rw [this]
      · contradiction

theorem cmp_anti : ∀ x y : O, cmp y x = - cmp x y := by
  intro x
  induction x using ind with
  | h0 => intro y; cases y with
    | nil => rw [cmp_nn]; rfl
    | cons t y => rw [cmp_nc, cmp_cn]; rfl
  | h1 c e r ihe ihr =>
    intro y; cases y with
    | nil => rw [cmp_nc, cmp_cn]
    | cons t s =>
      obtain ⟨d, f⟩ := t
      rw [cmp_cc, cmp_cc, ihe f, ihr s]
      have := cmp_range e f
      split <;> split <;> first | omega | (repeat' split) <;> omega

theorem cmp_trans : ∀ {x y z : O}, cmp x y = -1 → cmp y z = -1 → cmp x z = -1 := by
  intro x
  induction x using ind with
  | h0 => intro y z h1 h2; cases z with
    | nil => cases y with
      | nil => exact h1
      | cons t y => rw [cmp_cn] at h2; omega
    | cons t z => exact cmp_nc _ _
  | h1 c e r ihe ihr =>
    intro y z h1 h2
    cases y with
    | nil => rw [cmp_cn] at h1; omega
    | cons t s =>
      obtain ⟨d, f⟩ := t
      cases z with
      | nil => rw [cmp_cn] at h2; omega
      | cons u w =>
        obtain ⟨g, h⟩ := u
        rw [cmp_cc] at h1 h2 ⊢
        by_cases a : cmp e f = 0
        · have a' := cmp_eq a
          subst a'
          rw [if_pos a] at h1
          by_cases b : cmp e h = 0
          · rw [if_pos b] at h2 ⊢
            by_cases c1 : c < g
            · rw [if_pos c1]
            · rw [if_neg c1]
              split at h1
              · split at h2
                · omega
                · split at h2 <;> omega
              · split at h1
                · omega
                · split at h2
                  · omega
                  · split at h2
                    · omega
                    · rw [if_neg (by omega)]; exact ihr h1 h2
          · rw [if_neg b] at h2 ⊢; exact h2
        · rw [if_neg a] at h1
          by_cases b : cmp f h = 0
          · have b' := cmp_eq b
            subst b'
            rw [if_neg a]; exact h1
          · rw [if_neg b] at h2
            have := ihe h1 h2
            rw [if_neg (by omega)]; exact this

/-! #### less -/
def Lt (x y : O) : Prop := cmp x y = -1
theorem Lt.trans {x y z : O} (h : Lt x y) (g : Lt y z) : Lt x z := cmp_trans h g
theorem Lt.irrefl (x : O) : ¬ Lt x x := by unfold Lt; rw [cmp_self]; omega
theorem Lt.gt {x y : O} (h : Lt x y) : cmp y x = 1 := by have := cmp_anti x y; unfold Lt at h; omega
theorem gt_lt {x y : O} (h : cmp x y = 1) : Lt y x := by have := cmp_anti x y; unfold Lt; omega
theorem tri (x y : O) : Lt x y ∨ x = y ∨ Lt y x := by
  rcases cmp_range x y with h | h | h
  · exact .inl h
  · exact .inr (.inl (cmp_eq h))
  · exact .inr (.inr (gt_lt h))
theorem Lt.ne {x y : O} (h : Lt x y) : x ≠ y := by rintro rfl; exact Lt.irrefl _ h
theorem Lt.asymm {x y : O} (h : Lt x y) (g : Lt y x) : False := Lt.irrefl _ (h.trans g)
theorem not_lt_nil (x : O) : ¬ Lt x [] := by
  unfold Lt; cases x with
  | nil => rw [cmp_nn]; omega
  | cons t y => rw [cmp_cn]; omega
theorem nil_lt {x : O} (h : x ≠ []) : Lt [] x := by
  cases x with
  | nil => exact absurd rfl h
  | cons t y => exact cmp_nc _ _
theorem cmp_lt {x y : O} (h : Lt x y) : cmp x y = -1 := h
/-- the ways in which two that are not empty are compared -/
theorem cmp_lt_e {e f : O} (h : Lt e f) (c d : Int) (r s : O) : cmp (⟨c, e⟩ :: r) (⟨d, f⟩ :: s) = -1 := by rw [cmp_cc, h]; rfl
theorem cmp_gt_e {e f : O} (h : Lt f e) (c d : Int) (r s : O) : cmp (⟨c, e⟩ :: r) (⟨d, f⟩ :: s) = 1 := by rw [cmp_cc, h.gt]; rfl
theorem cmp_eq_e (e : O) (c d : Int) (r s : O) : cmp (⟨c, e⟩ :: r) (⟨d, e⟩ :: s) = if c < d then -1 else if d < c then 1 else cmp r s := by rw [cmp_cc, if_pos (cmp_self e)]
theorem cmp_eq_t (e : O) (c : Int) (r s : O) : cmp (⟨c, e⟩ :: r) (⟨c, e⟩ :: s) = cmp r s := by rw [cmp_eq_e, if_neg (by omega), if_neg (by omega)]
theorem cmp_lt_c {c d : Int} (h : c < d) (e : O) (r s : O) : cmp (⟨c, e⟩ :: r) (⟨d, e⟩ :: s) = -1 := by rw [cmp_eq_e, if_pos h]
theorem cmp_gt_c {c d : Int} (h : d < c) (e : O) (r s : O) : cmp (⟨c, e⟩ :: r) (⟨d, e⟩ :: s) = 1 := by rw [cmp_eq_e, if_neg (by omega), if_pos h]

/-! #### what is valid -/
def below (e : O) : O → Prop
  | [] => True
  | ⟨_, f⟩ :: _ => Lt f e
def NF : O → Prop
  | [] => True
  | ⟨c, e⟩ :: r => 1 ≤ c ∧ NF e ∧ NF r ∧ below e r
def size : O → Int
  | [] => 1
  | ⟨_, e⟩ :: r => 1 + size e + size r
def most : O → Int
  | [] => 0
  | ⟨c, e⟩ :: r => max c (max (most e) (most r))
theorem NF_nil : NF [] := by unfold NF; trivial
theorem NF_cons {c : Int} {e r : O} : NF (⟨c, e⟩ :: r) ↔ 1 ≤ c ∧ NF e ∧ NF r ∧ below e r := by rw [NF]
theorem size_nil : size [] = 1 := by unfold size; rfl
theorem size_cons (c : Int) (e r : O) : size (⟨c, e⟩ :: r) = 1 + size e + size r := by rw [size]
theorem most_nil : most [] = 0 := by unfold most; rfl
theorem most_cons (c : Int) (e r : O) : most (⟨c, e⟩ :: r) = max c (max (most e) (most r)) := by rw [most]
theorem size_pos (x : O) : 1 ≤ size x := by
  induction x using ind with
  | h0 => rw [size_nil]; omega
  | h1 c e r ihe ihr => rw [size_cons]; omega
theorem most_pos (x : O) : 0 ≤ most x := by
  induction x using ind with
  | h0 => rw [most_nil]; omega
  | h1 c e r ihe ihr => rw [most_cons]; omega
theorem below_nil (e : O) : below e [] := trivial
theorem below_cons {e f : O} {c : Int} {r : O} : below e (⟨c, f⟩ :: r) ↔ Lt f e := Iff.rfl
theorem below.mono {e f : O} (h : Lt e f) : ∀ {x : O}, below e x → below f x
  | [], _ => trivial
  | ⟨_, _⟩ :: _, hx => Lt.trans hx h
/-- what is below is less than every term of the exponent -/
theorem below.lt {e : O} : ∀ {x : O}, below e x → ∀ (c : Int) (r : O), Lt x (⟨c, e⟩ :: r)
  | [], _, _, _ => cmp_nc _ _
  | ⟨_, _⟩ :: _, hx, _, _ => cmp_lt_e hx _ _ _ _
end OM

namespace OM
/-! #### sums -/
def add : O → O → O
  | x, [] => x
  | [], y => y
  | ⟨c, e⟩ :: r, ⟨d, f⟩ :: s => if cmp e f = 1 then ⟨c, e⟩ :: add r (⟨d, f⟩ :: s) else if cmp e f = 0 then ⟨c + d, f⟩ :: s else ⟨d, f⟩ :: s
theorem add_nil (x : O) : add x [] = x := by cases x <;> (unfold add; rfl)
theorem nil_add (x : O) : add [] x = x := by cases x <;> (unfold add; rfl)
theorem add_gt {e f : O} (h : Lt f e) (c d : Int) (r s : O) : add (⟨c, e⟩ :: r) (⟨d, f⟩ :: s) = ⟨c, e⟩ :: add r (⟨d, f⟩ :: s) := by
  rw [add, h.gt, if_pos rfl]
theorem add_eq (e : O) (c d : Int) (r s : O) : add (⟨c, e⟩ :: r) (⟨d, e⟩ :: s) = ⟨c + d, e⟩ :: s := by
  rw [add, cmp_self]; rfl
theorem add_lt {e f : O} (h : Lt e f) (c d : Int) (r s : O) : add (⟨c, e⟩ :: r) (⟨d, f⟩ :: s) = ⟨d, f⟩ :: s := by
  rw [add, cmp_lt h]; rfl
theorem add_ne_nil {x y : O} (h : y ≠ []) : add x y ≠ [] := by
  cases y with
  | nil => exact absurd rfl h
  | cons u s =>
    obtain ⟨d, f⟩ := u
    cases x with
    | nil => rw [nil_add]; exact h
    | cons t r =>
      obtain ⟨c, e⟩ := t
      rcases tri e f with a | a | a
      · rw [add_lt a]; exact h
      · subst a; rw [add_eq]; simp
      · rw [add_gt a]; simp

theorem add_assoc : ∀ x y z : O, add (add x y) z = add x (add y z) := by
  intro x
  induction x with
  | nil => intro y z; rw [nil_add, nil_add]
  | cons t r ih =>
    intro y z
    obtain ⟨c, e⟩ := t
    cases y with
    | nil => rw [add_nil, nil_add]
    | cons u s =>
      obtain ⟨d, f⟩ := u
      cases z with
      | nil => rw [add_nil, add_nil]
      | cons v t =>
        obtain ⟨g, h⟩ := v
        rcases tri e f with a | a | a
        · rw [add_lt a]
          rcases tri f h with b | b | b
          · rw [add_lt b, add_lt (a.trans b)]
          · subst b; rw [add_eq, add_lt a]
          · rw [add_gt b, add_lt a]
        · subst a
          rw [add_eq]
          rcases tri e h with b | b | b
          · rw [add_lt b, add_lt b, add_lt b]
          · subst b; rw [add_eq, add_eq, add_eq]; congr 2; omega
          · rw [add_gt b, add_gt b, add_eq]
        · rw [add_gt a]
          rcases tri f h with b | b | b
          · rw [add_lt b]
            rcases tri e h with k | k | k
            · rw [add_lt k, add_lt k]
            · subst k; rw [add_eq, add_eq]
            · rw [add_gt k, ih, add_lt b, add_gt k]
          · subst b; rw [add_eq, add_gt a, add_gt a, ih, add_eq]
          · rw [add_gt b, add_gt (b.trans a), ih, add_gt b, add_gt a]

/-- sums keep the order of what stands behind -/
theorem add_cmp : ∀ {x y z : O}, NF y → NF z → cmp (add x y) (add x z) = cmp y z := by
  intro x
  induction x with
  | nil => intro y z _ _; rw [nil_add, nil_add]
  | cons t r ih =>
    intro y z hy hz
    obtain ⟨c, e⟩ := t
    cases y with
    | nil =>
      cases z with
      | nil => rw [cmp_self, cmp_self]
      | cons v t =>
        obtain ⟨g, h⟩ := v
        have hg := (NF_cons.1 hz).1
        rw [add_nil, cmp_nc]
        rcases tri e h with b | b | b
        · rw [add_lt b, cmp_lt_e b]
        · subst b; rw [add_eq, cmp_lt_c (by omega)]
        · rw [add_gt b, cmp_eq_t]
          have := @ih [] (⟨g, h⟩ :: t) hy hz
          rw [add_nil, cmp_nc] at this; exact this
    | cons u s =>
      obtain ⟨d, f⟩ := u
      have hd := (NF_cons.1 hy).1
      cases z with
      | nil =>
        rw [add_nil, cmp_cn]
        rcases tri e f with b | b | b
        · rw [add_lt b, cmp_gt_e b]
        · subst b; rw [add_eq, cmp_gt_c (by omega)]
        · rw [add_gt b, cmp_eq_t]
          have := @ih (⟨d, f⟩ :: s) [] hy hz
          rw [add_nil, cmp_cn] at this; exact this
      | cons v t =>
        obtain ⟨g, h⟩ := v
        have hg := (NF_cons.1 hz).1
        rcases tri e f with a | a | a
        · rw [add_lt a]
          rcases tri e h with b | b | b
          · rw [add_lt b]
          · subst b; rw [add_eq, cmp_gt_e a, cmp_gt_e a]
          · rw [add_gt b, cmp_gt_e a, cmp_gt_e (b.trans a)]
        · subst a
          rw [add_eq]
          rcases tri e h with b | b | b
          · rw [add_lt b, cmp_lt_e b, cmp_lt_e b]
          · subst b; rw [add_eq, cmp_eq_e, cmp_eq_e]
            by_cases k : d < g
            · rw [if_pos k, if_pos (by omega)]
            · by_cases k' : g < d
              · rw [if_neg k, if_pos k', if_neg (by omega), if_pos (by omega)]
              · rw [if_neg k, if_neg k', if_neg (by omega), if_neg (by omega)]
          · rw [add_gt b, cmp_gt_e b, cmp_gt_c (by omega)]
        · rw [add_gt a]
          rcases tri e h with b | b | b
          · rw [add_lt b, cmp_lt_e b, cmp_lt_e (a.trans b)]
          · subst b; rw [add_eq, cmp_lt_e a, cmp_lt_c (by omega)]
          · rw [add_gt b, cmp_eq_t]; exact ih hy hz
theorem add_ge_left {x y : O} (hy : NF y) : 0 ≤ cmp (add x y) x := by
  have := @add_cmp x y [] hy NF_nil
  rw [add_nil] at this
  rw [this]
  cases y with
  | nil => rw [cmp_nn]; omega
  | cons t s => rw [cmp_cn]; omega
theorem add_ge_right : ∀ {x y : O}, NF x → 0 ≤ cmp (add x y) y := by
  intro x y hx
  cases x with
  | nil => rw [nil_add, cmp_self]; omega
  | cons t r =>
    obtain ⟨c, e⟩ := t
    have hc := (NF_cons.1 hx).1
    cases y with
    | nil => rw [add_nil, cmp_cn]; omega
    | cons u s =>
      obtain ⟨d, f⟩ := u
      rcases tri e f with a | a | a
      · rw [add_lt a, cmp_self]; omega
      · subst a; rw [add_eq, cmp_gt_c (by omega)]; omega
      · rw [add_gt a, cmp_gt_e a]; omega
theorem add_below {e : O} : ∀ {x y : O}, below e x → below e y → below e (add x y) := by
  intro x y hx hy
  cases x with
  | nil => rw [nil_add]; exact hy
  | cons t r =>
    obtain ⟨c, f⟩ := t
    cases y with
    | nil => rw [add_nil]; exact hx
    | cons u s =>
      obtain ⟨d, g⟩ := u
      rcases tri f g with a | a | a
      · rw [add_lt a]; exact hy
      · subst a; rw [add_eq]; exact hx
      · rw [add_gt a]; exact hx
theorem add_NF : ∀ {x y : O}, NF x → NF y → NF (add x y) := by
  intro x
  induction x with
  | nil => intro y _ hy; rw [nil_add]; exact hy
  | cons t r ih =>
    intro y hx hy
    obtain ⟨c, e⟩ := t
    obtain ⟨h1, h2, h3, h4⟩ := NF_cons.1 hx
    cases y with
    | nil => rw [add_nil]; exact hx
    | cons u s =>
      obtain ⟨d, f⟩ := u
      obtain ⟨g1, g2, g3, g4⟩ := NF_cons.1 hy
      rcases tri e f with a | a | a
      · rw [add_lt a]; exact hy
      · subst a; rw [add_eq]; exact NF_cons.2 ⟨by omega, g2, g3, g4⟩
      · rw [add_gt a]; exact NF_cons.2 ⟨h1, h2, ih h3 hy, add_below h4 a⟩
/-- what is below a term's exponent stands behind it -/
theorem cons_add {c : Int} {e r y : O} (h : below e y) : add (⟨c, e⟩ :: r) y = ⟨c, e⟩ :: add r y := by
  cases y with
  | nil => rw [add_nil, add_nil]
  | cons u s => obtain ⟨d, f⟩ := u; exact add_gt h _ _ _ _

/-! #### products -/
def mul : O → O → O
  | [], _ => []
  | _, [] => []
  | ⟨c, e⟩ :: r, ⟨d, f⟩ :: s => if f.isEmpty then ⟨c * d, e⟩ :: r else ⟨d, add e f⟩ :: mul (⟨c, e⟩ :: r) s
termination_by _ y => y.length
decreasing_by simp
theorem nil_mul (y : O) : mul [] y = [] := by cases y <;> (unfold mul; rfl)
theorem mul_nil (x : O) : mul x [] = [] := by cases x <;> (unfold mul; rfl)
theorem mul_fin (c d : Int) (e r s : O) : mul (⟨c, e⟩ :: r) (⟨d, []⟩ :: s) = ⟨c * d, e⟩ :: r := by rw [mul]; rfl
theorem mul_cons {f : O} (h : f ≠ []) (c d : Int) (e r s : O) : mul (⟨c, e⟩ :: r) (⟨d, f⟩ :: s) = ⟨d, add e f⟩ :: mul (⟨c, e⟩ :: r) s := by
  rw [mul, if_neg]; cases f with
  | nil => exact absurd rfl h
  | cons _ _ => simp
theorem lt_add {e f : O} (hf : NF f) (h : f ≠ []) : Lt e (add e f) := by
  have := @add_cmp e [] f NF_nil hf
  rw [add_nil] at this
  unfold Lt; rw [this]; exact nil_lt h
theorem add_lt_add {e f g : O} (hf : NF f) (hg : NF g) (h : Lt f g) : Lt (add e f) (add e g) := by
  unfold Lt; rw [add_cmp hf hg]; exact h
theorem ne_of_gt {f h : O} (a : Lt h f) : f ≠ [] := by rintro rfl; exact not_lt_nil _ a
theorem below_nil_eq {s : O} (h : below [] s) : s = [] := by
  cases s with
  | nil => rfl
  | cons t r => obtain ⟨c, f⟩ := t; exact absurd h (not_lt_nil _)
/-- the first exponent of a product -/
theorem mul_head {c d : Int} {e r f s : O} : ∃ d' s', mul (⟨c, e⟩ :: r) (⟨d, f⟩ :: s) = ⟨d', add e f⟩ :: s' := by
  by_cases h : f = []
  · subst h; exact ⟨_, _, by rw [mul_fin, add_nil]⟩
  · exact ⟨_, _, mul_cons h _ _ _ _ _⟩
theorem mul_below {c : Int} {e r f z : O} (hf : NF f) (hz : NF z) (h : below f z) : below (add e f) (mul (⟨c, e⟩ :: r) z) := by
  cases z with
  | nil => rw [mul_nil]; trivial
  | cons v t =>
    obtain ⟨g, h'⟩ := v
    obtain ⟨d', s', k⟩ := @mul_head c g e r h' t
    rw [k]
    exact add_lt_add (NF_cons.1 hz).2.1 hf h
theorem mul_NF : ∀ {x y : O}, NF x → NF y → NF (mul x y) := by
  intro x y hx
  cases x with
  | nil => intro _; rw [nil_mul]; exact NF_nil
  | cons t r =>
    obtain ⟨c, e⟩ := t
    obtain ⟨h1, h2, h3, h4⟩ := NF_cons.1 hx
    induction y with
    | nil => intro _; rw [mul_nil]; exact NF_nil
    | cons u s ih =>
      intro hy
      obtain ⟨d, f⟩ := u
      obtain ⟨g1, g2, g3, g4⟩ := NF_cons.1 hy
      by_cases h : f = []
      · subst h; rw [mul_fin]; exact NF_cons.2 ⟨by have := Int.mul_le_mul h1 g1 (by omega) (by omega); omega, h2, h3, h4⟩
      · rw [mul_cons h]; exact NF_cons.2 ⟨g1, add_NF h2 g2, ih g3, mul_below g2 g3 g4⟩
theorem mul_add {x : O} : ∀ {y z : O}, NF y → NF z → mul x (add y z) = add (mul x y) (mul x z) := by
  intro y
  cases x with
  | nil => intro z _ _; rw [nil_mul, nil_mul, nil_mul, nil_add]
  | cons t r =>
    obtain ⟨c, e⟩ := t
    induction y with
    | nil => intro z _ _; rw [nil_add, mul_nil, nil_add]
    | cons u s ih =>
      intro z hy hz
      obtain ⟨d, f⟩ := u
      obtain ⟨h1, h2, h3, h4⟩ := NF_cons.1 hy
      cases z with
      | nil => rw [add_nil, mul_nil, add_nil]
      | cons v t =>
        obtain ⟨g, h⟩ := v
        obtain ⟨g1, g2, g3, g4⟩ := NF_cons.1 hz
        rcases tri f h with a | a | a
        · rw [add_lt a]
          obtain ⟨d1, s1, k1⟩ := @mul_head c d e r f s
          obtain ⟨d2, s2, k2⟩ := @mul_head c g e r h t
          rw [k1, k2, add_lt (add_lt_add h2 g2 a)]
        · subst a
          rw [add_eq]
          by_cases k : f = []
          · subst k; rw [mul_fin, mul_fin, mul_fin, add_eq, Int.mul_add]
          · rw [mul_cons k, mul_cons k, mul_cons k, add_eq]
        · have k := ne_of_gt a
          rw [add_gt a, mul_cons k, mul_cons k, ih h3 hz]
          exact (cons_add (mul_below h2 hz a)).symm
theorem mul_ne_nil {x y : O} (hx : x ≠ []) (hy : y ≠ []) : mul x y ≠ [] := by
  cases x with
  | nil => exact absurd rfl hx
  | cons t r => cases y with
    | nil => exact absurd rfl hy
    | cons u s =>
      obtain ⟨c, e⟩ := t
      obtain ⟨d, f⟩ := u
      obtain ⟨d1, s1, k1⟩ := @mul_head c d e r f s
      rw [k1]; simp
theorem mul_assoc {x y : O} (hy : NF y) : ∀ {z : O}, NF z → mul (mul x y) z = mul x (mul y z) := by
  intro z
  cases x with
  | nil => intro _; rw [nil_mul, nil_mul, nil_mul]
  | cons t r =>
    obtain ⟨c, e⟩ := t
    cases y with
    | nil => intro _; rw [mul_nil, nil_mul, mul_nil]
    | cons u s =>
      obtain ⟨d, f⟩ := u
      obtain ⟨h1, h2, h3, h4⟩ := NF_cons.1 hy
      obtain ⟨d1, s1, k1⟩ := @mul_head c d e r f s
      induction z with
      | nil => intro _; rw [mul_nil, mul_nil, mul_nil]
      | cons v t ih =>
        intro hz
        obtain ⟨g, h⟩ := v
        obtain ⟨g1, g2, g3, g4⟩ := NF_cons.1 hz
        by_cases k : h = []
        · subst k
          rw [mul_fin]
          by_cases k' : f = []
          · subst k'; rw [mul_fin, mul_fin, mul_fin, Int.mul_assoc]
          · rw [mul_cons k', mul_cons k', mul_fin]
        · have := ih g3
          rw [mul_cons k, mul_cons (add_ne_nil k), ← this, k1, mul_cons k, add_assoc]
theorem mul_one (x : O) : mul x [⟨1, []⟩] = x := by
  cases x with
  | nil => rw [nil_mul]
  | cons t r => obtain ⟨c, e⟩ := t; rw [mul_fin, Int.mul_one]
theorem one_mul : ∀ {x : O}, NF x → mul [⟨1, []⟩] x = x := by
  intro x
  induction x with
  | nil => intro _; rw [mul_nil]
  | cons u s ih =>
    intro hx
    obtain ⟨d, f⟩ := u
    obtain ⟨h1, h2, h3, h4⟩ := NF_cons.1 hx
    by_cases k : f = []
    · subst k; rw [mul_fin, Int.one_mul, below_nil_eq h4]
    · rw [mul_cons k, ih h3, nil_add]
end OM

namespace OM
/-! #### differences -/
def minus : O → O → O
  | x, [] => x
  | [], _ :: _ => []
  | ⟨c, e⟩ :: r, ⟨d, f⟩ :: s => if cmp e f = 1 then ⟨c, e⟩ :: r else if d < c then ⟨c - d, e⟩ :: r else minus r s
theorem minus_nil (x : O) : minus x [] = x := by cases x <;> (unfold minus; rfl)
theorem nil_minus (y : O) : minus [] y = [] := by cases y <;> (unfold minus; rfl)
theorem minus_gt {e f : O} (h : Lt f e) (c d : Int) (r s : O) : minus (⟨c, e⟩ :: r) (⟨d, f⟩ :: s) = ⟨c, e⟩ :: r := by rw [minus, h.gt, if_pos rfl]
theorem minus_gtc {c d : Int} (h : d < c) (e r s : O) : minus (⟨c, e⟩ :: r) (⟨d, e⟩ :: s) = ⟨c - d, e⟩ :: r := by rw [minus, cmp_self, if_neg (by omega), if_pos h]
theorem minus_eq (c : Int) (e r s : O) : minus (⟨c, e⟩ :: r) (⟨c, e⟩ :: s) = minus r s := by rw [minus, cmp_self, if_neg (by omega), if_neg (by omega)]
/-- of two of which the first one is not less: the ways -/
theorem ge_ways {c d : Int} {e f r s : O} (h : 0 ≤ cmp (⟨c, e⟩ :: r) (⟨d, f⟩ :: s)) : Lt f e ∨ (e = f ∧ d < c) ∨ (e = f ∧ c = d ∧ 0 ≤ cmp r s) := by
  rcases tri e f with a | a | a
  · rw [cmp_lt_e a] at h; omega
  · subst a
    rw [cmp_eq_e] at h
    by_cases k : c < d
    · rw [if_pos k] at h; omega
    · rw [if_neg k] at h
      by_cases k' : d < c
      · exact .inr (.inl ⟨rfl, k'⟩)
      · rw [if_neg k'] at h; exact .inr (.inr ⟨rfl, by omega, h⟩)
  · exact .inl a
theorem minus_below {g : O} : ∀ {x y : O}, NF x → below g x → below g (minus x y) := by
  intro x
  induction x with
  | nil => intro y _ _; rw [nil_minus]; trivial
  | cons t r ih =>
    intro y hx hb
    obtain ⟨c, e⟩ := t
    obtain ⟨h1, h2, h3, h4⟩ := NF_cons.1 hx
    cases y with
    | nil => rw [minus_nil]; exact hb
    | cons u s =>
      obtain ⟨d, f⟩ := u
      rw [minus]
      split
      · exact hb
      · split
        · exact hb
        · exact ih h3 (below.mono hb h4)
theorem minus_NF : ∀ {x y : O}, NF x → NF (minus x y) := by
  intro x
  induction x with
  | nil => intro y _; rw [nil_minus]; exact NF_nil
  | cons t r ih =>
    intro y hx
    obtain ⟨c, e⟩ := t
    obtain ⟨h1, h2, h3, h4⟩ := NF_cons.1 hx
    cases y with
    | nil => rw [minus_nil]; exact hx
    | cons u s =>
      obtain ⟨d, f⟩ := u
      rw [minus]
      split
      · exact hx
      · split
        · exact NF_cons.2 ⟨by omega, h2, h3, h4⟩
        · exact ih h3
theorem size_minus : ∀ x y : O, size (minus x y) ≤ size x := by
  intro x
  induction x with
  | nil => intro y; rw [nil_minus]; omega
  | cons t r ih =>
    intro y
    obtain ⟨c, e⟩ := t
    cases y with
    | nil => rw [minus_nil]; omega
    | cons u s =>
      obtain ⟨d, f⟩ := u
      rw [minus]
      have := ih s
      have := size_pos e
      split
      · omega
      · split
        · rw [size_cons, size_cons]; omega
        · rw [size_cons]; omega
theorem most_minus : ∀ {x y : O}, NF y → most (minus x y) ≤ most x := by
  intro x
  induction x with
  | nil => intro y _; rw [nil_minus]; omega
  | cons t r ih =>
    intro y hy
    obtain ⟨c, e⟩ := t
    cases y with
    | nil => rw [minus_nil]; omega
    | cons u s =>
      obtain ⟨d, f⟩ := u
      obtain ⟨h1, h2, h3, h4⟩ := NF_cons.1 hy
      rw [minus]
      have := ih h3
      split
      · omega
      · split
        · rw [most_cons, most_cons]; omega
        · rw [most_cons]; omega
theorem add_minus : ∀ {x y : O}, NF x → 0 ≤ cmp x y → add y (minus x y) = x := by
  intro x
  induction x with
  | nil => intro y _ h; cases y with
    | nil => rw [minus_nil, nil_add]
    | cons u s => rw [cmp_nc] at h; omega
  | cons t r ih =>
    intro y hx h
    obtain ⟨c, e⟩ := t
    obtain ⟨h1, h2, h3, h4⟩ := NF_cons.1 hx
    cases y with
    | nil => rw [minus_nil, nil_add]
    | cons u s =>
      obtain ⟨d, f⟩ := u
      rcases ge_ways h with a | ⟨a, b⟩ | ⟨a, b, k⟩
      · rw [minus_gt a, add_lt a]
      · subst a; rw [minus_gtc b, add_eq]; congr 2; omega
      · subst a; subst b; rw [minus_eq, cons_add (minus_below h3 h4), ih h3 k]
theorem minus_ne_nil {x y : O} (hx : NF x) (h : Lt y x) : minus x y ≠ [] := by
  intro e
  have := add_minus hx (x := x) (y := y) (by rw [h.gt]; omega)
  rw [e, add_nil] at this
  exact h.ne this
theorem minus_self (x : O) : minus x x = [] := by
  induction x with
  | nil => rw [minus_nil]
  | cons t r ih => obtain ⟨c, e⟩ := t; rw [minus_eq]; exact ih

/-! #### quotients -/
/-- how often y is in x (whose first exponent is not greater than that of y), and what is left -/
def divB (x y : O) : O × O :=
  match x, y with
  | ⟨c, e⟩ :: r, ⟨d, f⟩ :: s =>
    if cmp e f = 0 then
      let n := c / d
      let n := if 0 < n ∧ cmp (⟨c, e⟩ :: r) (mul (⟨d, f⟩ :: s) [⟨n, []⟩]) < 0 then n - 1 else n
      if 0 < n then ([⟨n, []⟩], minus (⟨c, e⟩ :: r) (mul (⟨d, f⟩ :: s) [⟨n, []⟩])) else ([], ⟨c, e⟩ :: r)
    else ([], ⟨c, e⟩ :: r)
  | x, _ => ([], x)
def div : O → O → O × O
  | ⟨c, e⟩ :: r, ⟨d, f⟩ :: s => if cmp e f = 1 then (⟨c, minus e f⟩ :: (div r (⟨d, f⟩ :: s)).1, (div r (⟨d, f⟩ :: s)).2) else divB (⟨c, e⟩ :: r) (⟨d, f⟩ :: s)
  | x, _ => ([], x)
/-- what a division tells -/
structure IsDiv (x y : O) (p : O × O) : Prop where
  sum : add (mul y p.1) p.2 = x
  lt : Lt p.2 y
  nf : NF p.1
  nf2 : NF p.2
theorem divB_nil (y : O) : divB [] y = ([], []) := by unfold divB; rfl
theorem divB_le {e f : O} (h : Lt e f) (c d : Int) (r s : O) : divB (⟨c, e⟩ :: r) (⟨d, f⟩ :: s) = ([], ⟨c, e⟩ :: r) := by
  unfold divB; simp only; rw [if_neg (by rw [h]; omega)]
theorem div_is : ∀ {x y : O}, NF x → NF y → y ≠ [] → IsDiv x y (div x y) := by
  intro x y
  cases y with
  | nil => intro _ _ h; exact absurd rfl h
  | cons u s =>
  obtain ⟨d, f⟩ := u
  induction x with
  | nil => intro _ hy _; unfold div; exact ⟨by rw [mul_nil, nil_add], cmp_nc _ _, NF_nil, NF_nil⟩
  | cons t r ih =>
    intro hx hy hn
    obtain ⟨c, e⟩ := t
    obtain ⟨h1, h2, h3, h4⟩ := NF_cons.1 hx
    obtain ⟨g1, g2, g3, g4⟩ := NF_cons.1 hy
    rw [div]
    rcases tri e f with a | a | a
    · rw [if_neg (by rw [a]; omega), divB_le a]
      exact ⟨by rw [mul_nil, nil_add], cmp_lt_e a _ _ _ _, NF_nil, hx⟩
    · subst a
      rw [if_neg (by rw [cmp_self]; omega)]
      unfold divB; simp only
      rw [if_pos (cmp_self e), mul_fin]
      generalize hn0 : c / d = n0
      have q1 : d * n0 ≤ c := by rw [← hn0]; exact Int.mul_ediv_self_le (by omega)
      have q2 : c < d * n0 + d := by rw [← hn0]; exact Int.lt_mul_ediv_self_add (by omega)
      have q0 : 0 ≤ n0 := by rw [← hn0]; exact Int.ediv_nonneg (by omega) (by omega)
      have fin : ∀ n, 0 ≤ n → 0 ≤ cmp (⟨c, e⟩ :: r) (⟨d * n, e⟩ :: s) ∨ n = 0 → (n = 0 → Lt (⟨c, e⟩ :: r) (⟨d, e⟩ :: s)) → (0 < n → Lt (minus (⟨c, e⟩ :: r) (⟨d * n, e⟩ :: s)) (⟨d, e⟩ :: s)) →
          IsDiv (⟨c, e⟩ :: r) (⟨d, e⟩ :: s) (if 0 < n then ([⟨n, []⟩], minus (⟨c, e⟩ :: r) (mul (⟨d, e⟩ :: s) [⟨n, []⟩])) else ([], ⟨c, e⟩ :: r)) := by
        intro n hn hg hz hp
        by_cases k : 0 < n
        · rw [if_pos k, mul_fin]
          have hg' : 0 ≤ cmp (⟨c, e⟩ :: r) (⟨d * n, e⟩ :: s) := by rcases hg with hg | hg <;> omega
          exact ⟨by rw [mul_fin]; exact add_minus hx hg', hp k, NF_cons.2 ⟨by omega, NF_nil, NF_nil, trivial⟩, minus_NF hx⟩
        · rw [if_neg k]
          exact ⟨by rw [mul_nil, nil_add], hz (by omega), NF_nil, hx⟩
      have rest : ∀ n, 0 < n → d * n < c → c < d * n + d → Lt (minus (⟨c, e⟩ :: r) (⟨d * n, e⟩ :: s)) (⟨d, e⟩ :: s) := by
        intro n _ k1 k2
        rw [minus_gtc k1]; exact cmp_lt_c (by omega) _ _ _
      by_cases k : 0 < n0 ∧ cmp (⟨c, e⟩ :: r) (⟨d * n0, e⟩ :: s) < 0
      · rw [if_pos k]
        obtain ⟨k0, k⟩ := k
        have hd : d * (n0 - 1) = d * n0 - d := by rw [Int.mul_sub, Int.mul_one]
        rw [cmp_eq_e] at k
        have hcd : c = d * n0 := by
          rcases Int.lt_trichotomy c (d * n0) with z | z | z
          · omega
          · exact z
          · rw [if_neg (by omega), if_pos z] at k; omega
        have hrs : Lt r s := by
          rw [if_neg (by omega), if_neg (by omega)] at k
          rcases cmp_range r s with z | z | z
          · exact z
          · omega
          · omega
        refine fin (n0 - 1) (by omega) (.inl ?_) (fun z => ?_) (fun z => ?_)
        · rw [cmp_gt_c (by omega)]; omega
        · have : n0 = 1 := by omega
          subst this
          have : c = d := by omega
          subst this
          show cmp _ _ = -1
          rw [cmp_eq_t]; exact hrs
        · rw [minus_gtc (by omega)]
          have : c - d * (n0 - 1) = d := by omega
          rw [this]
          show cmp _ _ = -1
          rw [cmp_eq_t]; exact hrs
      · rw [if_neg k]
        refine fin n0 q0 ?_ (fun z => ?_) (fun z => ?_)
        · by_cases z : 0 < n0
          · exact .inl (by have : ¬ cmp (⟨c, e⟩ :: r) (⟨d * n0, e⟩ :: s) < 0 := fun h => k ⟨z, h⟩
                           omega)
          · exact .inr (by omega)
        · subst z
          exact cmp_lt_c (by omega) _ _ _
        · have hge : ¬ cmp (⟨c, e⟩ :: r) (⟨d * n0, e⟩ :: s) < 0 := fun h => k ⟨z, h⟩
          by_cases z' : d * n0 < c
          · exact rest n0 z z' q2
          · have : d * n0 = c := by omega
            rw [this, minus_eq]
            exact below.lt (minus_below h3 h4) _ _
    · rw [if_pos a.gt]
      have ih := ih h3 hy hn
      have hm := minus_ne_nil h2 a
      have hl : below e (div r (⟨d, f⟩ :: s)).2 := by
        have := ih.lt
        generalize (div r (⟨d, f⟩ :: s)).2 = l at this
        cases l with
        | nil => trivial
        | cons t' r' =>
          obtain ⟨c', e'⟩ := t'
          rcases tri e' f with z | z | z
          · exact z.trans a
          · subst z; exact a
          · exact absurd (cmp_gt_e z c' d r' s) (by rw [this]; omega)
      refine ⟨?_, ih.lt, NF_cons.2 ⟨h1, minus_NF h2, ih.nf, ?_⟩, ih.nf2⟩
      · rw [mul_cons hm, add_minus h2 (by rw [a.gt]; omega), cons_add hl, ih.sum]
      · -- the exponents of the quotient are less and less
        have hs := ih.sum
        have hr : below e r := h4
        have hq := ih.nf
        generalize (div r (⟨d, f⟩ :: s)).1 = q at hs hq ⊢
        generalize (div r (⟨d, f⟩ :: s)).2 = l at hs
        cases q with
        | nil => trivial
        | cons v q' =>
          obtain ⟨g, k⟩ := v
          obtain ⟨d1, s1, k1⟩ := @mul_head d g f s k q'
          -- f + k is the first exponent of r, or less
          have hk : Lt (add f k) e := by
            rw [k1] at hs
            cases l with
            | nil => rw [add_nil] at hs; rw [← hs] at hr; exact hr
            | cons v' l' =>
              obtain ⟨g', k'⟩ := v'
              rcases tri (add f k) k' with z | z | z
              · rw [add_lt z] at hs; rw [← hs] at hr; exact z.trans hr
              · subst z; rw [add_eq] at hs; rw [← hs] at hr; exact hr
              · rw [add_gt z] at hs; rw [← hs] at hr; exact hr
          have he := add_minus h2 (y := f) (by rw [a.gt]; omega)
          rw [← he] at hk
          have hkn : NF k := (NF_cons.1 hq).2.1
          unfold Lt at hk
          rw [add_cmp hkn (minus_NF h2)] at hk
          exact hk
end OM

namespace OM
/-! #### natural sums -/
def nat : O → O → O
  | [], y => y
  | x, [] => x
  | ⟨c, e⟩ :: r, ⟨d, f⟩ :: s => if cmp e f = 1 then ⟨c, e⟩ :: nat r (⟨d, f⟩ :: s) else if cmp e f = 0 then ⟨c + d, e⟩ :: nat r s else ⟨d, f⟩ :: nat (⟨c, e⟩ :: r) s
termination_by x y => x.length + y.length
theorem nil_nat (y : O) : nat [] y = y := by unfold nat; rfl
theorem nat_nil (x : O) : nat x [] = x := by cases x <;> (unfold nat; rfl)
theorem nat_gt {e f : O} (h : Lt f e) (c d : Int) (r s : O) : nat (⟨c, e⟩ :: r) (⟨d, f⟩ :: s) = ⟨c, e⟩ :: nat r (⟨d, f⟩ :: s) := by rw [nat, h.gt, if_pos rfl]
theorem nat_eq (e : O) (c d : Int) (r s : O) : nat (⟨c, e⟩ :: r) (⟨d, e⟩ :: s) = ⟨c + d, e⟩ :: nat r s := by rw [nat, cmp_self]; rfl
theorem nat_lt {e f : O} (h : Lt e f) (c d : Int) (r s : O) : nat (⟨c, e⟩ :: r) (⟨d, f⟩ :: s) = ⟨d, f⟩ :: nat (⟨c, e⟩ :: r) s := by rw [nat, cmp_lt h]; rfl
/-- Induction over the lengths of two. -/
theorem ind2 {P : O → O → Prop} (H : ∀ x y, (∀ x' y', x'.length + y'.length < x.length + y.length → P x' y') → P x y) : ∀ x y, P x y := by
  have : ∀ n x y, x.length + y.length < n → P x y := by
    intro n
    induction n with
    | zero => intro x y h; omega
    | succ n ih => intro x y h; exact H x y (fun x' y' h' => ih x' y' (by omega))
  exact fun x y => this _ x y (Nat.lt_succ_self _)
theorem nat_comm : ∀ x y : O, nat x y = nat y x := by
  refine ind2 (fun x y ih => ?_)
  cases x with
  | nil => rw [nil_nat, nat_nil]
  | cons t r => cases y with
    | nil => rw [nil_nat, nat_nil]
    | cons u s =>
      obtain ⟨c, e⟩ := t
      obtain ⟨d, f⟩ := u
      rcases tri e f with a | a | a
      · rw [nat_lt a, nat_gt a, ih _ _ (by simp <;> omega)]
      · subst a; rw [nat_eq, nat_eq, ih _ _ (by simp; omega), Int.add_comm]
      · rw [nat_lt a, nat_gt a, ih _ _ (by simp <;> omega)]
theorem ind3 {P : O → O → O → Prop} (H : ∀ x y z, (∀ x' y' z', x'.length + y'.length + z'.length < x.length + y.length + z.length → P x' y' z') → P x y z) : ∀ x y z, P x y z := by
  have : ∀ n x y z, x.length + y.length + z.length < n → P x y z := by
    intro n
    induction n with
    | zero => intro x y z h; omega
    | succ n ih => intro x y z h; exact H x y z (fun x' y' z' h' => ih x' y' z' (by omega))
  exact fun x y z => this _ x y z (Nat.lt_succ_self _)
theorem nat_assoc : ∀ x y z : O, nat (nat x y) z = nat x (nat y z) := by
  refine ind3 (fun x y z ih => ?_)
  cases x with
  | nil => rw [nil_nat, nil_nat]
  | cons t r => cases y with
    | nil => rw [nil_nat, nat_nil]
    | cons u s => cases z with
      | nil => rw [nat_nil, nat_nil]
      | cons v w =>
        obtain ⟨c, e⟩ := t
        obtain ⟨d, f⟩ := u
        obtain ⟨g, h⟩ := v
        rcases tri e f with a | a | a
        · rw [nat_lt a]
          rcases tri f h with b | b | b
          · rw [nat_lt b, nat_lt b, nat_lt (a.trans b), ← nat_lt a c d r s, ih _ _ _ (by simp <;> omega)]
          · subst b; rw [nat_eq, nat_eq, nat_lt a, ih _ _ _ (by simp; omega)]
          · rw [nat_gt b, nat_gt b, nat_lt a, ih _ _ _ (by simp <;> omega)]
        · subst a
          rw [nat_eq]
          rcases tri e h with b | b | b
          · rw [nat_lt b, nat_lt b, nat_lt b, ← nat_eq e c d r s, ih _ _ _ (by simp <;> omega)]
          · subst b; rw [nat_eq, nat_eq, nat_eq, ih _ _ _ (by simp; omega), Int.add_assoc]
          · rw [nat_gt b, nat_gt b, nat_eq, ih _ _ _ (by simp; omega)]
        · rw [nat_gt a]
          rcases tri f h with b | b | b
          · rw [nat_lt b]
            rcases tri e h with k | k | k
            · rw [nat_lt k, nat_lt k, ← nat_gt a c d r s, ih _ _ _ (by simp <;> omega)]
            · subst k; rw [nat_eq, nat_eq, ih _ _ _ (by simp; omega)]
            · rw [nat_gt k, nat_gt k, ih _ _ _ (by simp <;> omega), nat_lt b]
          · subst b; rw [nat_eq, nat_gt a, nat_gt a, ih _ _ _ (by simp <;> omega), nat_eq]
          · rw [nat_gt b, nat_gt (b.trans a), nat_gt a, ih _ _ _ (by simp <;> omega), nat_gt b]
/-- natural sums keep the order -/
theorem nat_cmp : ∀ x y z : O, NF x → NF y → NF z → cmp (nat x y) (nat x z) = cmp y z := by
  refine ind3 (fun x y z ih hx hy hz => ?_)
  cases x with
  | nil => rw [nil_nat, nil_nat]
  | cons t r =>
    obtain ⟨c, e⟩ := t
    obtain ⟨h1, h2, h3, h4⟩ := NF_cons.1 hx
    cases y with
    | nil => cases z with
      | nil => rw [cmp_self, cmp_self]
      | cons v w =>
        obtain ⟨g, h⟩ := v
        obtain ⟨k1, k2, k3, k4⟩ := NF_cons.1 hz
        rw [nat_nil, cmp_nc]
        rcases tri e h with b | b | b
        · rw [nat_lt b, cmp_lt_e b]
        · subst b; rw [nat_eq, cmp_lt_c (by omega)]
        · rw [nat_gt b, cmp_eq_t]
          have := ih r [] (⟨g, h⟩ :: w) (by simp) h3 NF_nil hz
          rw [nat_nil, cmp_nc] at this; exact this
    | cons u s =>
      obtain ⟨d, f⟩ := u
      obtain ⟨g1, g2, g3, g4⟩ := NF_cons.1 hy
      cases z with
      | nil =>
        rw [nat_nil, cmp_cn]
        rcases tri e f with b | b | b
        · rw [nat_lt b, cmp_gt_e b]
        · subst b; rw [nat_eq, cmp_gt_c (by omega)]
        · rw [nat_gt b, cmp_eq_t]
          have := ih r (⟨d, f⟩ :: s) [] (by simp) h3 hy NF_nil
          rw [nat_nil, cmp_cn] at this; exact this
      | cons v w =>
        obtain ⟨g, h⟩ := v
        obtain ⟨k1, k2, k3, k4⟩ := NF_cons.1 hz
        rcases tri e f with a | a | a
        · rw [nat_lt a]
          rcases tri e h with b | b | b
          · rw [nat_lt b]
            rw [cmp_cc, cmp_cc, ih _ s w (by simp; omega) hx g3 k3]
          · subst b; rw [nat_eq, cmp_gt_e a, cmp_gt_e a]
          · rw [nat_gt b, cmp_gt_e a, cmp_gt_e (b.trans a)]
        · subst a
          rw [nat_eq]
          rcases tri e h with b | b | b
          · rw [nat_lt b, cmp_lt_e b, cmp_lt_e b]
          · subst b; rw [nat_eq, cmp_eq_e, cmp_eq_e, ih _ s w (by simp; omega) h3 g3 k3]
            by_cases k : d < g
            · rw [if_pos k, if_pos (by omega)]
            · by_cases k' : g < d
              · rw [if_neg k, if_pos k', if_neg (by omega), if_pos (by omega)]
              · rw [if_neg k, if_neg k', if_neg (by omega), if_neg (by omega)]
          · rw [nat_gt b, cmp_gt_e b, cmp_gt_c (by omega)]
        · rw [nat_gt a]
          rcases tri e h with b | b | b
          · rw [nat_lt b, cmp_lt_e b, cmp_lt_e (a.trans b)]
          · subst b; rw [nat_eq, cmp_lt_e a, cmp_lt_c (by omega)]
          · rw [nat_gt b, cmp_eq_t]; exact ih _ _ _ (by simp) h3 hy hz
theorem nat_below {e : O} {x y : O} (hx : below e x) (hy : below e y) : below e (nat x y) := by
  cases x with
  | nil => rw [nil_nat]; exact hy
  | cons t r =>
    obtain ⟨c, f⟩ := t
    cases y with
    | nil => rw [nat_nil]; exact hx
    | cons u s =>
      obtain ⟨d, g⟩ := u
      rcases tri f g with a | a | a
      · rw [nat_lt a]; exact hy
      · subst a; rw [nat_eq]; exact hx
      · rw [nat_gt a]; exact hx
theorem nat_NF : ∀ x y : O, NF x → NF y → NF (nat x y) := by
  refine ind2 (fun x y ih hx hy => ?_)
  cases x with
  | nil => rw [nil_nat]; exact hy
  | cons t r =>
    obtain ⟨c, e⟩ := t
    obtain ⟨h1, h2, h3, h4⟩ := NF_cons.1 hx
    cases y with
    | nil => rw [nat_nil]; exact hx
    | cons u s =>
      obtain ⟨d, f⟩ := u
      obtain ⟨g1, g2, g3, g4⟩ := NF_cons.1 hy
      rcases tri e f with a | a | a
      · rw [nat_lt a]; exact NF_cons.2 ⟨g1, g2, ih _ _ (by simp) hx g3, nat_below a g4⟩
      · subst a; rw [nat_eq]; exact NF_cons.2 ⟨by omega, g2, ih _ _ (by simp; omega) h3 g3, nat_below h4 g4⟩
      · rw [nat_gt a]; exact NF_cons.2 ⟨h1, h2, ih _ _ (by simp) h3 hy, nat_below h4 a⟩
/-- a natural sum is never less than the sum -/
theorem add_le_nat : ∀ x y : O, NF x → NF y → cmp (add x y) (nat x y) ≤ 0 := by
  refine ind2 (fun x y ih hx hy => ?_)
  cases x with
  | nil => rw [nil_nat, nil_add, cmp_self]; omega
  | cons t r =>
    obtain ⟨c, e⟩ := t
    obtain ⟨h1, h2, h3, h4⟩ := NF_cons.1 hx
    cases y with
    | nil => rw [nat_nil, add_nil, cmp_self]; omega
    | cons u s =>
      obtain ⟨d, f⟩ := u
      obtain ⟨g1, g2, g3, g4⟩ := NF_cons.1 hy
      rcases tri e f with a | a | a
      · rw [nat_lt a, add_lt a, cmp_eq_t]
        have hn := @nat_cmp s [] (⟨c, e⟩ :: r) g3 NF_nil hx
        rw [nat_nil, nat_comm s, cmp_nc] at hn; omega
      · subst a; rw [nat_eq, add_eq, cmp_eq_t]
        have hn := @nat_cmp s [] r g3 NF_nil h3
        rw [nat_nil, nat_comm s] at hn
        rw [hn]
        cases r with
        | nil => rw [cmp_nn]; omega
        | cons t r => rw [cmp_nc]; omega
      · rw [nat_gt a, add_gt a, cmp_eq_t]; exact ih _ _ (by simp) h3 hy
theorem most_nat : ∀ x y : O, NF x → NF y → most (nat x y) ≤ most x + most y := by
  refine ind2 (fun x y ih hx hy => ?_)
  cases x with
  | nil => rw [nil_nat, most_nil]; omega
  | cons t r =>
    obtain ⟨c, e⟩ := t
    obtain ⟨h1, h2, h3, h4⟩ := NF_cons.1 hx
    cases y with
    | nil => rw [nat_nil, most_nil]; omega
    | cons u s =>
      obtain ⟨d, f⟩ := u
      obtain ⟨g1, g2, g3, g4⟩ := NF_cons.1 hy
      have p1 := most_pos (⟨c, e⟩ :: r)
      have p2 := most_pos (⟨d, f⟩ :: s)
      have p3 := most_pos r
      have p4 := most_pos s
      have p5 := most_pos e
      have p6 := most_pos f
      rcases tri e f with a | a | a
      · have := ih (⟨c, e⟩ :: r) s (by simp) hx g3
        rw [nat_lt a]; simp only [most_cons] at *; omega
      · subst a
        have := ih r s (by simp; omega) h3 g3
        rw [nat_eq]; simp only [most_cons] at *; omega
      · have := ih r (⟨d, f⟩ :: s) (by simp) h3 hy
        rw [nat_gt a]; simp only [most_cons] at *; omega
end OM

namespace OM
/-! #### before, kind, next -/
def bef : O → O
  | [] => []
  | [⟨c, e⟩] => if c = 1 then [] else [⟨c - 1, e⟩]
  | t :: u :: r => t :: bef (u :: r)
def kind : O → Int
  | [] => 0
  | [⟨_, e⟩] => if e.isEmpty then 1 else 2
  | _ :: u :: r => kind (u :: r)
abbrev one : O := [⟨1, []⟩]
theorem NF_one : NF one := NF_cons.2 ⟨by omega, NF_nil, NF_nil, trivial⟩
theorem kind_nil : kind [] = 0 := by unfold kind; rfl
theorem kind_s (c : Int) (e : O) : kind [⟨c, e⟩] = if e.isEmpty then 1 else 2 := by rw [kind]
theorem kind_cc (t u : Tm) (r : O) : kind (t :: u :: r) = kind (u :: r) := by rw [kind]
theorem bef_nil : bef [] = [] := by unfold bef; rfl
theorem bef_s (c : Int) (e : O) : bef [⟨c, e⟩] = if c = 1 then [] else [⟨c - 1, e⟩] := by rw [bef]
theorem bef_cc (t u : Tm) (r : O) : bef (t :: u :: r) = t :: bef (u :: r) := by rw [bef]
theorem kind_range (x : O) : kind x = 0 ∨ kind x = 1 ∨ kind x = 2 := by
  induction x with
  | nil => exact .inl kind_nil
  | cons t r ih => cases r with
    | nil => obtain ⟨c, e⟩ := t; rw [kind_s]; split <;> simp
    | cons u s => rw [kind_cc]; exact ih
theorem kind_zero {x : O} : kind x = 0 ↔ x = [] := by
  constructor
  · intro h
    induction x with
    | nil => rfl
    | cons t r ih => cases r with
      | nil => obtain ⟨c, e⟩ := t; rw [kind_s] at h; split at h <;> omega
      | cons u s => rw [kind_cc] at h; exact absurd (ih h) (by simp)
  · rintro rfl; exact kind_nil
theorem below_bef {g : O} {x : O} (h : below g x) : below g (bef x) := by
  cases x with
  | nil => rw [bef_nil]; exact h
  | cons t r =>
    obtain ⟨c, e⟩ := t
    cases r with
    | nil => rw [bef_s]; split
             · trivial
             · exact h
    | cons u s => rw [bef_cc]; exact h
theorem bef_NF {x : O} (h : NF x) : NF (bef x) := by
  induction x with
  | nil => rw [bef_nil]; exact h
  | cons t r ih =>
    obtain ⟨c, e⟩ := t
    obtain ⟨h1, h2, h3, h4⟩ := NF_cons.1 h
    cases r with
    | nil => rw [bef_s]; split
             · exact NF_nil
             · exact NF_cons.2 ⟨by omega, h2, h3, h4⟩
    | cons u s => rw [bef_cc]; exact NF_cons.2 ⟨h1, h2, ih h3, below_bef h4⟩
theorem size_bef (x : O) : size (bef x) ≤ size x := by
  induction x with
  | nil => rw [bef_nil]; omega
  | cons t r ih =>
    obtain ⟨c, e⟩ := t
    have := size_pos e
    cases r with
    | nil => rw [bef_s, size_cons]; split
             · rw [size_nil]; omega
             · rw [size_cons]; omega
    | cons u s => rw [bef_cc, size_cons, size_cons]; omega
theorem most_bef {x : O} (h : NF x) : most (bef x) ≤ most x := by
  induction x with
  | nil => rw [bef_nil]; omega
  | cons t r ih =>
    obtain ⟨c, e⟩ := t
    obtain ⟨h1, h2, h3, h4⟩ := NF_cons.1 h
    cases r with
    | nil => rw [bef_s, most_cons]; split
             · rw [most_nil]; omega
             · rw [most_cons]; omega
    | cons u s => have := ih h3; rw [bef_cc, most_cons, most_cons]; omega
/-- the one before, and 1 -/
theorem add_bef {x : O} (h : NF x) (k : kind x = 1) : add (bef x) one = x := by
  induction x with
  | nil => rw [kind_nil] at k; omega
  | cons t r ih =>
    obtain ⟨c, e⟩ := t
    obtain ⟨h1, h2, h3, h4⟩ := NF_cons.1 h
    cases r with
    | nil =>
      rw [kind_s] at k
      have he : e = [] := by
        cases e with
        | nil => rfl
        | cons _ _ => exact absurd k (by simp)
      subst he
      rw [bef_s]
      split
      · next hc => subst hc; rw [nil_add]
      · rw [add_eq]; congr 2; omega
    | cons u s =>
      rw [kind_cc] at k
      rw [bef_cc, cons_add (r := bef (u :: s)) (y := one) (nil_lt (ne_of_gt (f := e) (h := u.f1) (by obtain ⟨_, f⟩ := u; exact h4)) : Lt [] e), ih h3 k]
theorem add_one_ways {x : O} (h : NF x) : (x = [] ∧ add x one = one) ∨ (∃ p c, x = p ++ [⟨c, []⟩] ∧ add x one = p ++ [⟨c + 1, []⟩]) ∨ (kind x = 2 ∧ add x one = x ++ one) := by
  induction x with
  | nil => exact .inl ⟨rfl, nil_add _⟩
  | cons t r ih =>
    obtain ⟨c, e⟩ := t
    obtain ⟨h1, h2, h3, h4⟩ := NF_cons.1 h
    by_cases he : e = []
    · subst he
      have := below_nil_eq h4
      subst this
      exact .inr (.inl ⟨[], c, rfl, by rw [add_eq]; rfl⟩)
    · have ha : add (⟨c, e⟩ :: r) one = ⟨c, e⟩ :: add r one := cons_add (nil_lt he)
      rcases ih h3 with ⟨k1, k2⟩ | ⟨p, c', k1, k2⟩ | ⟨k1, k2⟩
      · subst k1
        refine .inr (.inr ⟨?_, by rw [ha, k2]; rfl⟩)
        rw [kind_s]; cases e with
        | nil => exact absurd rfl he
        | cons _ _ => rfl
      · exact .inr (.inl ⟨⟨c, e⟩ :: p, c', by rw [k1]; rfl, by rw [ha, k2]; rfl⟩)
      · refine .inr (.inr ⟨?_, by rw [ha, k2]; rfl⟩)
        cases r with
        | nil => rw [kind_nil] at k1; omega
        | cons u s => rw [kind_cc]; exact k1
theorem bef_append (p : O) (c : Int) (e : O) : bef (p ++ [⟨c, e⟩]) = p ++ bef [⟨c, e⟩] := by
  induction p with
  | nil => rfl
  | cons t r ih => cases r with
    | nil => show bef (t :: ⟨c, e⟩ :: []) = _; rw [bef_cc]; rfl
    | cons u s => show bef (t :: u :: (s ++ _)) = _; rw [bef_cc]; exact congrArg _ ih
theorem kind_append (p : O) (c : Int) (e : O) : kind (p ++ [⟨c, e⟩]) = kind [⟨c, e⟩] := by
  induction p with
  | nil => rfl
  | cons t r ih => cases r with
    | nil => show kind (t :: ⟨c, e⟩ :: []) = _; rw [kind_cc]
    | cons u s => show kind (t :: u :: (s ++ _)) = _; rw [kind_cc]; exact ih
theorem NF_append_last {p : O} {c : Int} {e : O} : NF (p ++ [⟨c, e⟩]) → 1 ≤ c ∧ NF e := by
  induction p with
  | nil => intro h; exact ⟨(NF_cons.1 h).1, (NF_cons.1 h).2.1⟩
  | cons t r ih => intro h; obtain ⟨d, f⟩ := t; exact ih (NF_cons.1 h).2.2.1
theorem bef_next {x : O} (h : NF x) : bef (add x one) = x ∧ kind (add x one) = 1 := by
  rcases add_one_ways h with ⟨k1, k2⟩ | ⟨p, c', k1, k2⟩ | ⟨k1, k2⟩
  · subst k1; rw [k2]; exact ⟨by rw [bef_s]; rfl, by rw [kind_s]; rfl⟩
  · have := (NF_append_last (by rw [← k1]; exact h)).1
    rw [k2, bef_append, bef_s, kind_append, kind_s, if_neg (by omega), k1]
    exact ⟨by congr 3; omega, rfl⟩
  · rw [k2, bef_append, bef_s, kind_append, kind_s, if_pos rfl, List.append_nil]; exact ⟨rfl, rfl⟩
theorem lt_next (x : O) : Lt x (add x one) := lt_add NF_one (by simp)
theorem bef_lt {x : O} (h : NF x) (k : kind x = 1) : Lt (bef x) x := by
  have := lt_next (bef x)
  rwa [add_bef h k] at this
/-- nothing is between -/
theorem next_least : ∀ {b a : O}, NF a → NF b → Lt a (add b one) → cmp a b ≤ 0 := by
  intro b
  induction b with
  | nil =>
    intro a ha _ h
    rw [nil_add] at h
    cases a with
    | nil => rw [cmp_nn]; omega
    | cons t s =>
      exfalso
      obtain ⟨d, f⟩ := t
      have hd := (NF_cons.1 ha).1
      unfold Lt at h
      by_cases k : f = []
      · subst k
        rw [cmp_eq_e, if_neg (by omega)] at h
        split at h
        · omega
        · exact not_lt_nil _ h
      · rw [cmp_gt_e (nil_lt k)] at h; omega
  | cons u r ih =>
    intro a ha hb h
    obtain ⟨c, e⟩ := u
    obtain ⟨h1, h2, h3, h4⟩ := NF_cons.1 hb
    cases a with
    | nil => rw [cmp_nc]; omega
    | cons t s =>
      obtain ⟨d, f⟩ := t
      obtain ⟨g1, g2, g3, g4⟩ := NF_cons.1 ha
      unfold Lt at h
      by_cases he : e = []
      · subst he
        rw [add_eq] at h
        by_cases k : f = []
        · subst k
          rw [cmp_eq_e] at h ⊢
          rw [below_nil_eq g4] at h ⊢
          rw [below_nil_eq h4]
          by_cases z : d < c
          · rw [if_pos z]; omega
          · by_cases z' : d = c
            · rw [if_neg z, if_neg (by omega), cmp_nn]; omega
            · by_cases z'' : d < c + 1
              · omega
              · rw [if_neg z''] at h
                split at h
                · omega
                · rw [cmp_nn] at h; omega
        · rw [cmp_gt_e (nil_lt k)] at h; omega
      · rw [cons_add (y := one) (nil_lt he : Lt [] e)] at h
        rw [cmp_cc] at h ⊢
        by_cases z : cmp f e = 0
        · rw [if_pos z] at h ⊢
          by_cases z1 : d < c
          · rw [if_pos z1]; omega
          · rw [if_neg z1] at h ⊢
            by_cases z2 : c < d
            · rw [if_pos z2] at h; omega
            · rw [if_neg z2] at h ⊢
              exact ih g3 h3 h
        · rw [if_neg z] at h ⊢; omega
theorem le_bef {x a : O} (hx : NF x) (ha : NF a) (k : kind x = 1) (h : Lt a x) : cmp a (bef x) ≤ 0 := by
  rw [← add_bef hx k] at h
  exact next_least ha (bef_NF hx) h

/-! #### steps down -/
/-- what takes the place of one w to the power of e -/
def step (n : Int) : O → O
  | [] => []
  | [⟨c, e⟩] => (if c = 1 then [] else [⟨c - 1, e⟩]) ++ (if kind e = 2 then [⟨1, step n e⟩] else if kind e = 1 ∧ 0 < n then [⟨n, bef e⟩] else [])
  | t :: u :: r => t :: step n (u :: r)
def tail (n : Int) (e : O) : O := if kind e = 2 then [⟨1, step n e⟩] else if kind e = 1 ∧ 0 < n then [⟨n, bef e⟩] else []
theorem step_nil (n : Int) : step n [] = [] := by unfold step; rfl
theorem step_s (n c : Int) (e : O) : step n [⟨c, e⟩] = bef [⟨c, e⟩] ++ tail n e := by rw [step, bef_s]; rfl
theorem step_cc (n : Int) (t u : Tm) (r : O) : step n (t :: u :: r) = t :: step n (u :: r) := by rw [step]
theorem step_append (n : Int) (p : O) (c : Int) (e : O) : step n (p ++ [⟨c, e⟩]) = p ++ step n [⟨c, e⟩] := by
  induction p with
  | nil => rfl
  | cons t r ih => cases r with
    | nil => show step n (t :: ⟨c, e⟩ :: []) = _; rw [step_cc]; rfl
    | cons u s => show step n (t :: u :: (s ++ _)) = _; rw [step_cc]; exact congrArg _ ih
theorem kind_one_nil {e : O} (c : Int) : kind [⟨c, e⟩] = 1 ↔ e = [] := by
  rw [kind_s]; cases e <;> simp
theorem kind_two_nil {e : O} (c : Int) : kind [⟨c, e⟩] = 2 ↔ e ≠ [] := by
  rw [kind_s]; cases e <;> simp
theorem step_one {n : Int} {x : O} (k : kind x = 1) : step n x = bef x := by
  induction x with
  | nil => rw [step_nil, bef_nil]
  | cons t r ih =>
    obtain ⟨c, e⟩ := t
    cases r with
    | nil =>
      have := (kind_one_nil c).1 k
      subst this
      rw [step_s]; unfold tail; rw [kind_nil]; simp
    | cons u s => rw [step_cc, bef_cc]; rw [kind_cc] at k; rw [ih k]
/-- Induction over the last terms: an ordinal without terms, one term, several. -/
theorem indl {P : O → Prop} (h0 : P []) (h1 : ∀ c e, P e → P [⟨c, e⟩]) (h2 : ∀ t u r, P (u :: r) → P (t :: u :: r)) : ∀ x, P x := by
  intro x
  induction x using ind with
  | h0 => exact h0
  | h1 c e r ihe ihr => cases r with
    | nil => exact h1 c e ihe
    | cons u r => exact h2 _ u r ihr
theorem NF_tail {n : Int} {e : O} (he : NF e) (hs : NF (step n e)) : NF (tail n e) := by
  unfold tail
  split
  · exact NF_cons.2 ⟨by omega, hs, NF_nil, trivial⟩
  · split
    · next h => exact NF_cons.2 ⟨by omega, bef_NF he, NF_nil, trivial⟩
    · exact NF_nil
theorem step_lt (n : Int) : ∀ {x : O}, NF x → x ≠ [] → Lt (step n x) x := by
  intro x
  induction x using indl with
  | h0 => intro _ h; exact absurd rfl h
  | h1 c e ih =>
    intro h _
    obtain ⟨h1, h2, h3, h4⟩ := NF_cons.1 h
    rw [step_s, bef_s]
    split
    · unfold tail
      split
      · next k => exact cmp_lt_e (ih h2 (by rintro rfl; rw [kind_nil] at k; omega)) _ _ _ _
      · split
        · next k => exact cmp_lt_e (bef_lt h2 k.1) _ _ _ _
        · exact cmp_nc _ _
    · exact cmp_lt_c (by omega) _ _ _
  | h2 t u r ih =>
    intro h _
    obtain ⟨c, e⟩ := t
    rw [step_cc]
    show cmp _ _ = -1
    rw [cmp_eq_t]; exact ih (NF_cons.1 h).2.2.1 (by simp)
theorem tail_below {n : Int} {e : O} (he : NF e) : below e (tail n e) := by
  unfold tail
  split
  · next k => exact step_lt n he (by rintro rfl; rw [kind_nil] at k; omega)
  · split
    · next k => exact bef_lt he k.1
    · trivial
theorem step_below {n : Int} {g x : O} (hx : NF x) (h : below g x) : below g (step n x) := by
  cases x with
  | nil => rw [step_nil]; exact h
  | cons t r =>
    obtain ⟨c, e⟩ := t
    cases r with
    | nil => rw [step_s, bef_s]; split
             · exact below.mono h (tail_below (NF_cons.1 hx).2.1)
             · exact h
    | cons u s => rw [step_cc]; exact h
theorem step_NF {n : Int} : ∀ {x : O}, NF x → NF (step n x) := by
  intro x
  induction x using indl with
  | h0 => intro h; rw [step_nil]; exact h
  | h1 c e ih =>
    intro h
    obtain ⟨h1, h2, h3, h4⟩ := NF_cons.1 h
    rw [step_s, bef_s]
    split
    · exact NF_tail h2 (ih h2)
    · exact NF_cons.2 ⟨by omega, h2, NF_tail h2 (ih h2), tail_below h2⟩
  | h2 t u r ih =>
    intro h
    obtain ⟨c, e⟩ := t
    obtain ⟨h1, h2, h3, h4⟩ := NF_cons.1 h
    rw [step_cc]; exact NF_cons.2 ⟨h1, h2, ih h3, step_below h3 h4⟩
theorem cmp_append (p x y : O) : cmp (p ++ x) (p ++ y) = cmp x y := by
  induction p with
  | nil => rfl
  | cons t r ih => obtain ⟨c, e⟩ := t; show cmp (⟨c, e⟩ :: (r ++ x)) (⟨c, e⟩ :: (r ++ y)) = _; rw [cmp_eq_t]; exact ih
/-- steps for greater numbers are greater -/
theorem step_mono {n m : Int} (hn : 0 ≤ n) (hm : n < m) : ∀ {x : O}, NF x → kind x = 2 → Lt (step n x) (step m x) := by
  intro x
  induction x using indl with
  | h0 => intro _ k; rw [kind_nil] at k; omega
  | h1 c e ih =>
    intro h k
    obtain ⟨h1, h2, h3, h4⟩ := NF_cons.1 h
    rw [step_s, step_s]
    show cmp _ _ = -1
    rw [cmp_append]
    unfold tail
    by_cases k2 : kind e = 2
    · rw [if_pos k2, if_pos k2, cmp_lt_e (ih h2 k2)]
    · have k1 : kind e = 1 := by
        have := (kind_two_nil c).1 k
        have := mt (kind_zero (x := e)).1 this
        have := kind_range e
        omega
      rw [if_neg k2, if_neg k2]
      have hm' : kind e = 1 ∧ 0 < m := ⟨k1, by omega⟩
      by_cases z : 0 < n
      · have hn' : kind e = 1 ∧ 0 < n := ⟨k1, z⟩
        rw [if_pos hn', if_pos hm', cmp_lt_c (by omega)]
      · have hn' : ¬ (kind e = 1 ∧ 0 < n) := fun h => z h.2
        rw [if_neg hn', if_pos hm', cmp_nc]
  | h2 t u r ih =>
    intro h k
    obtain ⟨c, e⟩ := t
    rw [step_cc, step_cc]
    show cmp _ _ = -1
    rw [cmp_eq_t]; rw [kind_cc] at k; exact ih (NF_cons.1 h).2.2.1 k
/-- what is below an ordinal, with numbers that are all less than n, is less than its step for n -/
theorem step_above {n : Int} : ∀ {x a : O}, NF x → kind x = 2 → NF a → most a < n → Lt a x → Lt a (step n x) := by
  intro x
  induction x using indl with
  | h0 => intro a _ k; rw [kind_nil] at k; omega
  | h1 c e ih =>
    intro a h k ha hm hl
    obtain ⟨h1, h2, h3, h4⟩ := NF_cons.1 h
    have hn : 0 < n := by have := most_pos a; omega
    have hk : kind e = 1 ∨ kind e = 2 := by
      have := (kind_two_nil c).1 k
      have := mt (kind_zero (x := e)).1 this
      have := kind_range e
      omega
    have tl : ∀ s : O, NF s → most s < n → below e s → Lt s (tail n e) := by
      intro s hs hms hb
      unfold tail
      rcases hk with k1 | k2
      · rw [if_neg (by omega), if_pos ⟨k1, hn⟩]
        cases s with
        | nil => exact cmp_nc _ _
        | cons t s =>
          obtain ⟨d, f⟩ := t
          obtain ⟨g1, g2, g3, g4⟩ := NF_cons.1 hs
          rw [most_cons] at hms
          have := le_bef h2 g2 k1 hb
          rcases tri f (bef e) with z | z | z
          · exact cmp_lt_e z _ _ _ _
          · rw [z]; exact cmp_lt_c (by omega) _ _ _
          · rw [z.gt] at this; omega
      · rw [if_pos k2]
        cases s with
        | nil => exact cmp_nc _ _
        | cons t s =>
          obtain ⟨d, f⟩ := t
          obtain ⟨g1, g2, g3, g4⟩ := NF_cons.1 hs
          rw [most_cons] at hms
          exact cmp_lt_e (ih h2 k2 g2 (by omega) hb) _ _ _ _
    rw [step_s, bef_s]
    cases a with
    | nil =>
      split
      · exact tl [] ha hm trivial
      · exact cmp_nc _ _
    | cons t s =>
      obtain ⟨d, f⟩ := t
      obtain ⟨g1, g2, g3, g4⟩ := NF_cons.1 ha
      have hms : most s < n := by rw [most_cons] at hm; omega
      have hl' := hl
      unfold Lt at hl'
      rw [cmp_cc] at hl'
      by_cases z : cmp f e = 0
      · rw [if_pos z] at hl'
        have := cmp_eq z
        subst this
        have hdc : d < c := by
          by_cases y : d < c
          · exact y
          · rw [if_neg y] at hl'
            split at hl'
            · omega
            · exact absurd hl' (not_lt_nil _)
        rw [if_neg (by omega)]
        show cmp (⟨d, f⟩ :: s) (⟨c - 1, f⟩ :: tail n f) = -1
        rw [cmp_eq_e]
        by_cases y : d < c - 1
        · rw [if_pos y]
        · rw [if_neg y, if_neg (by omega)]
          exact tl s g3 hms g4
      · rw [if_neg z] at hl'
        split
        · exact tl (⟨d, f⟩ :: s) ha hm hl'
        · exact cmp_lt_e hl' _ _ _ _
  | h2 t u r ih =>
    intro a h k ha hm hl
    obtain ⟨c, e⟩ := t
    rw [kind_cc] at k
    rw [step_cc]
    cases a with
    | nil => exact cmp_nc _ _
    | cons t s =>
      obtain ⟨d, f⟩ := t
      obtain ⟨g1, g2, g3, g4⟩ := NF_cons.1 ha
      unfold Lt at hl ⊢
      rw [most_cons] at hm
      rw [cmp_cc] at hl ⊢
      by_cases z : cmp f e = 0
      · rw [if_pos z] at hl ⊢
        by_cases z1 : d < c
        · rw [if_pos z1]
        · rw [if_neg z1] at hl ⊢
          by_cases z2 : c < d
          · rw [if_pos z2] at hl; omega
          · rw [if_neg z2] at hl ⊢
            exact ih (NF_cons.1 h).2.2.1 k g3 (by omega) hl
      · rw [if_neg z] at hl ⊢; exact hl
end OM

namespace OM
/-! #### values -/
def val (n : Int) : O → Int
  | [] => 0
  | ⟨c, e⟩ :: r => c * n ^ (val n e).toNat + val n r
theorem val_nil (n : Int) : val n [] = 0 := by unfold val; rfl
theorem val_cons (n c : Int) (e r : O) : val n (⟨c, e⟩ :: r) = c * n ^ (val n e).toNat + val n r := by rw [val]
theorem pow_pos {n : Int} (hn : 1 ≤ n) (k : Nat) : 1 ≤ n ^ k := by
  induction k with
  | zero => simp
  | succ k ih => rw [Int.pow_succ]; have := Int.mul_le_mul ih hn (by omega) (by omega); omega
theorem pow_mono {n : Int} (hn : 1 ≤ n) {j k : Nat} (h : j ≤ k) : n ^ j ≤ n ^ k := by
  induction h with
  | refl => exact Int.le_refl _
  | step _ ih =>
    rw [Int.pow_succ]
    have := pow_pos hn ‹Nat›
    have := Int.mul_le_mul (Int.le_refl (n ^ ‹Nat›)) hn (by omega) (by omega)
    rw [Int.mul_one] at this
    omega
theorem pow_left {n m : Int} (hn : 0 ≤ n) (hm : n ≤ m) (k : Nat) : n ^ k ≤ m ^ k := by
  induction k with
  | zero => simp
  | succ k ih =>
    rw [Int.pow_succ, Int.pow_succ]
    exact Int.mul_le_mul ih hm hn (Int.pow_nonneg (by omega))
theorem mul_pow_pos {n c : Int} (hn : 1 ≤ n) (hc : 1 ≤ c) (k : Nat) : n ^ k ≤ c * n ^ k := by
  have := pow_pos hn k
  have := Int.mul_le_mul_of_nonneg_right hc (show 0 ≤ n ^ k by omega)
  omega
theorem val_nonneg {n : Int} (hn : 1 ≤ n) : ∀ {x : O}, NF x → 0 ≤ val n x := by
  intro x
  induction x using ind with
  | h0 => intro _; rw [val_nil]; omega
  | h1 c e r ihe ihr =>
    intro h
    obtain ⟨h1, h2, h3, h4⟩ := NF_cons.1 h
    rw [val_cons]
    have := ihr h3
    have := mul_pow_pos hn h1 (val n e).toNat
    have := pow_pos hn (val n e).toNat
    omega
theorem val_pos {n : Int} (hn : 1 ≤ n) {x : O} (h : NF x) (hx : x ≠ []) : 1 ≤ val n x := by
  cases x with
  | nil => exact absurd rfl hx
  | cons t r =>
    obtain ⟨c, e⟩ := t
    obtain ⟨h1, h2, h3, h4⟩ := NF_cons.1 h
    rw [val_cons]
    have := val_nonneg hn h3
    have := mul_pow_pos hn h1 (val n e).toNat
    have := pow_pos hn (val n e).toNat
    omega
theorem val_append (n : Int) (x y : O) : val n (x ++ y) = val n x + val n y := by
  induction x with
  | nil => rw [val_nil]; simp
  | cons t r ih => obtain ⟨c, e⟩ := t; show val n (⟨c, e⟩ :: (r ++ y)) = _; rw [val_cons, val_cons, ih]; omega
/-- a step from one of the kind 1 -/
theorem val_bef (n : Int) {x : O} (k : kind x = 1) : val n (bef x) = val n x - 1 := by
  induction x with
  | nil => rw [kind_nil] at k; omega
  | cons t r ih =>
    obtain ⟨c, e⟩ := t
    cases r with
    | nil =>
      have := (kind_one_nil c).1 k
      subst this
      rw [bef_s, val_cons, val_nil]
      split
      · next hc => rw [hc, val_nil]; simp
      · rw [val_cons, val_nil]; simp
    | cons u s => rw [kind_cc] at k; have := ih k; rw [bef_cc, val_cons, val_cons, this]; omega
theorem val_tail {n : Int} (hn : 1 ≤ n) {e : O} (he : NF e) (hz : e ≠ []) (ih : kind e = 2 → val n (step n e) = val n e) : val n (tail n e) = n ^ (val n e).toNat := by
  unfold tail
  split
  · next k => rw [val_cons, val_nil, ih k]; omega
  · next k =>
    have k1 : kind e = 1 := by
      have := mt (kind_zero (x := e)).1 hz
      have := kind_range e
      omega
    have hn' : kind e = 1 ∧ 0 < n := ⟨k1, by omega⟩
    have hp := val_pos hn he hz
    have : (val n e).toNat = (val n e - 1).toNat + 1 := by omega
    rw [if_pos hn', val_cons, val_nil, val_bef n k1, this, Int.pow_succ, Int.mul_comm, Int.add_zero]
/-- steps from one of the kind 2 keep the value -/
theorem val_step {n : Int} (hn : 1 ≤ n) : ∀ {x : O}, NF x → kind x = 2 → val n (step n x) = val n x := by
  intro x
  induction x using indl with
  | h0 => intro _ k; rw [kind_nil] at k; omega
  | h1 c e ih =>
    intro h k
    obtain ⟨h1, h2, h3, h4⟩ := NF_cons.1 h
    rw [step_s, val_append, val_tail hn h2 ((kind_two_nil c).1 k) (ih h2), bef_s, val_cons, val_nil]
    split
    · next hc => rw [hc, val_nil]; omega
    · rw [val_cons, val_nil, Int.sub_mul]; omega
  | h2 t u r ih =>
    intro h k
    obtain ⟨c, e⟩ := t
    rw [kind_cc] at k
    rw [step_cc, val_cons, val_cons, ih (NF_cons.1 h).2.2.1 k]
/-- of ordinals whose numbers are all less than the base the greater one has the greater value -/
theorem val_mono {n : Int} (hn : 1 ≤ n) : ∀ {x y : O}, NF x → NF y → most x < n → Lt x y → val n x < val n y := by
  intro x
  induction x using ind with
  | h0 =>
    intro y _ hy _ h
    have : y ≠ [] := by rintro rfl; exact Lt.irrefl _ h
    have := val_pos hn hy this
    rw [val_nil]; omega
  | h1 c e r ihe ihr =>
    intro y hx hy hm h
    obtain ⟨h1, h2, h3, h4⟩ := NF_cons.1 hx
    rw [most_cons] at hm
    cases y with
    | nil => exact absurd h (not_lt_nil _)
    | cons u s =>
      obtain ⟨d, f⟩ := u
      obtain ⟨g1, g2, g3, g4⟩ := NF_cons.1 hy
      have hr : val n r < n ^ (val n e).toNat := by
        have := ihr (y := [⟨1, e⟩]) h3 (NF_cons.2 ⟨by omega, h2, NF_nil, trivial⟩) (by omega) (below.lt h4 _ _)
        rw [val_cons, val_nil] at this; omega
      have hs := val_nonneg hn g3
      have hp := pow_pos hn (val n e).toNat
      rw [val_cons, val_cons]
      unfold Lt at h
      rw [cmp_cc] at h
      by_cases z : cmp e f = 0
      · rw [if_pos z] at h
        have := cmp_eq z
        subst this
        by_cases z1 : c < d
        · have : (c + 1) * n ^ (val n e).toNat ≤ d * n ^ (val n e).toNat := Int.mul_le_mul_of_nonneg_right (by omega) (by omega)
          rw [Int.add_mul] at this; omega
        · rw [if_neg z1] at h
          split at h
          · omega
          · have : c = d := by omega
            subst this
            have := ihr h3 g3 (by omega) h
            omega
      · rw [if_neg z] at h
        have hv := ihe h2 g2 (by omega) h
        have hv0 := val_nonneg hn h2
        have h5 : (c + 1) * n ^ (val n e).toNat ≤ n * n ^ (val n e).toNat := Int.mul_le_mul_of_nonneg_right (by omega) (by omega)
        have h6 : n ^ ((val n e).toNat + 1) ≤ n ^ (val n f).toNat := pow_mono hn (by omega)
        have h7 := mul_pow_pos hn g1 (val n f).toNat
        rw [Int.pow_succ, Int.mul_comm] at h6
        rw [Int.add_mul] at h5
        omega
theorem val_cmp {n : Int} (hn : 1 ≤ n) {x y : O} (hx : NF x) (hy : NF y) (mx : most x < n) (my : most y < n) : cmp x y = if val n x < val n y then -1 else if val n y < val n x then 1 else 0 := by
  rcases tri x y with h | h | h
  · rw [if_pos (val_mono hn hx hy mx h)]; exact h
  · subst h; rw [if_neg (by omega), if_neg (by omega)]; exact cmp_self _
  · have := val_mono hn hy hx my h
    rw [if_neg (by omega), if_pos this]; exact h.gt
theorem val_inj {n : Int} (hn : 1 ≤ n) {x y : O} (hx : NF x) (hy : NF y) (mx : most x < n) (my : most y < n) (h : val n x = val n y) : x = y := by
  apply cmp_eq
  rw [val_cmp hn hx hy mx my, if_neg (by omega), if_neg (by omega)]
/-- greater bases make greater values -/
theorem val_base {n m : Int} (hn : 1 ≤ n) (hm : n ≤ m) : ∀ {x : O}, NF x → val n x ≤ val m x := by
  intro x
  induction x using ind with
  | h0 => intro _; rw [val_nil, val_nil]; omega
  | h1 c e r ihe ihr =>
    intro h
    obtain ⟨h1, h2, h3, h4⟩ := NF_cons.1 h
    rw [val_cons, val_cons]
    have hr := ihr h3
    have he := ihe h2
    have h0 := val_nonneg hn h2
    have a1 : n ^ (val n e).toNat ≤ n ^ (val m e).toNat := pow_mono hn (by omega)
    have a2 : n ^ (val m e).toNat ≤ m ^ (val m e).toNat := pow_left (by omega) hm _
    have a3 : c * n ^ (val n e).toNat ≤ c * m ^ (val m e).toNat := Int.mul_le_mul_of_nonneg_left (by omega) (by omega)
    omega
end OM

namespace OM
/-! #### rounds enough -/
def Tells {α : Type} (g : Nat → Option α) (r : α) : Prop := ∃ K, ∀ k, K ≤ k → g k = some r
section
variable {α β : Type} {a : α} {r : β}
theorem Tells.now (r : α) : Tells (fun _ => some r) r := ⟨0, fun _ _ => rfl⟩
theorem Tells.const {x : Option α} (h : x = some a) : Tells (fun _ => x) a := ⟨0, fun _ _ => h⟩
theorem Tells.rounds {g : Nat → Option α} (h : Tells g a) : ∃ k, g k = some a := by
  obtain ⟨K, h⟩ := h
  exact ⟨K, h K (Nat.le_refl _)⟩
theorem Tells.bind {g : Nat → Option α} {f : Nat → α → Option β} (h : Tells g a) (e : Tells (fun k => f k a) r) : Tells (fun k => (g k).bind (f k)) r := by
  obtain ⟨K, h⟩ := h
  obtain ⟨M, e⟩ := e
  refine ⟨max K M, fun k hk => ?_⟩
  show (g k).bind (f k) = some r
  rw [h k (by omega)]
  exact e k (by omega)
theorem Tells.sbind {f : Nat → α → Option β} (e : Tells (fun k => f k a) r) : Tells (fun k => (some a).bind (f k)) r := e
theorem Tells.step {g f : Nat → Option α} (h : ∀ k, g (k + 1) = f k) (e : Tells f a) : Tells g a := by
  obtain ⟨K, e⟩ := e
  refine ⟨K + 1, fun k hk => ?_⟩
  obtain ⟨m, rfl⟩ : ∃ m, k = m + 1 := ⟨k - 1, by omega⟩
  rw [h]; exact e m (by omega)
theorem Tells.pos {c : Prop} [Decidable c] {f g : Nat → Option α} (h : c) (e : Tells f a) : Tells (fun k => if c then f k else g k) a := by
  obtain ⟨K, e⟩ := e
  exact ⟨K, fun k hk => by show (if c then f k else g k) = some a; rw [if_pos h]; exact e k hk⟩
theorem Tells.neg {c : Prop} [Decidable c] {f g : Nat → Option α} (h : ¬ c) (e : Tells g a) : Tells (fun k => if c then f k else g k) a := by
  obtain ⟨K, e⟩ := e
  exact ⟨K, fun k hk => by show (if c then f k else g k) = some a; rw [if_neg h]; exact e k hk⟩
theorem Tells.to {g : Nat → Option α} {b : α} (h : Tells g b) (e : b = a) : Tells g a := e ▸ h
theorem Tells.congr {g f : Nat → Option α} (h : ∀ k, g k = f k) (e : Tells f a) : Tells g a := by
  obtain ⟨K, e⟩ := e
  exact ⟨K, fun k hk => by rw [h]; exact e k hk⟩
end

/-! #### rows -/
def flat : O → List Int
  | [] => []
  | ⟨c, e⟩ :: r => c :: (((e.length : Int) :: flat e) ++ flat r)
def row (x : O) : List Int := (x.length : Int) :: flat x
theorem flat_nil : flat [] = [] := by unfold flat; rfl
theorem flat_cons (c : Int) (e r : O) : flat (⟨c, e⟩ :: r) = c :: (row e ++ flat r) := by rw [flat]; rfl
theorem row_nil : row [] = [0] := by unfold row; rw [flat_nil]; rfl
theorem flat_length (x : O) : ((flat x).length : Int) = size x - 1 := by
  induction x using ind with
  | h0 => rw [flat_nil, size_nil]; rfl
  | h1 c e r ihe ihr => rw [flat_cons, size_cons]; unfold row; simp only [List.length_cons, List.length_append]; omega
theorem row_length (x : O) : ((row x).length : Int) = size x := by
  have := flat_length x
  unfold row; simp only [List.length_cons]; omega
theorem length_le_size (x : O) : 2 * (x.length : Int) ≤ size x - 1 := by
  induction x with
  | nil => rw [size_nil]; simp
  | cons t r ih => obtain ⟨c, e⟩ := t; have := size_pos e; rw [size_cons]; simp only [List.length_cons]; omega
theorem row_ne_nil (x : O) : row x ≠ [] := by unfold row; simp

/-- is an exponent not less than the one before -/
def late (last : Option O) (e : O) : Bool := match last with
  | none => false
  | some f => decide (0 ≤ cmp e f)
/-- as many terms as c, each exponent less than the one before -/
def terms (tk : List Int → Option (O × List Int)) : Nat → Option O → List Int → Option (O × List Int)
  | 0, _, l => some ([], l)
  | _ + 1, _, [] => none
  | c + 1, last, t :: l =>
    if 1 ≤ t ∧ t ≤ 9999 then
      match tk l with
      | none => none
      | some (e, l') => if late last e = true then none else
        match terms tk c (some e) l' with
        | none => none
        | some (r, l'') => some (⟨t, e⟩ :: r, l'')
    else none
/-- an ordinal at the beginning of a row; n: more than the row is long -/
def take : Nat → List Int → Option (O × List Int)
  | 0, _ => none
  | _ + 1, [] => none
  | n + 1, m :: l => if 0 ≤ m ∧ m ≤ 60 then terms (take n) m.toNat none l else none
def Good (tk : List Int → Option (O × List Int)) : Prop := ∀ l x l', tk l = some (x, l') → l = row x ++ l' ∧ NF x ∧ most x ≤ 9999
theorem terms_good {tk : List Int → Option (O × List Int)} (htk : Good tk) : ∀ {c : Nat} {last : Option O} {l l' : List Int} {r : O}, terms tk c last l = some (r, l') →
    l = flat r ++ l' ∧ NF r ∧ most r ≤ 9999 ∧ r.length = c ∧ ∀ f, last = some f → below f r := by
  intro c
  induction c with
  | zero =>
    intro last l l' r h
    unfold terms at h
    injection h with h
    injection h with h1 h2
    subst h1; subst h2
    exact ⟨by rw [flat_nil]; rfl, NF_nil, by rw [most_nil]; omega, rfl, fun _ _ => trivial⟩
  | succ c ih =>
    intro last l l' r h
    cases l with
    | nil => unfold terms at h; cases h
    | cons t l =>
      rw [terms] at h
      split at h
      · next ht =>
        split at h
        · cases h
        · next e l1 he =>
          obtain ⟨a1, a2, a3⟩ := htk _ _ _ he
          split at h
          · cases h
          · next hl =>
            split at h
            · cases h
            · next r' l2 hr =>
              injection h with h
              injection h with h1 h2
              subst h1; subst h2
              obtain ⟨b1, b2, b3, b4, b5⟩ := ih hr
              refine ⟨?_, NF_cons.2 ⟨ht.1, a2, b2, b5 e rfl⟩, ?_, by simp [b4], fun f hf => ?_⟩
              · rw [a1, b1, flat_cons]; simp
              · rw [most_cons]; omega
              · subst hf
                unfold late at hl
                simp only [decide_eq_true_eq] at hl
                have := cmp_range e f
                show cmp e f = -1
                omega
      · cases h
theorem take_good (n : Nat) : Good (take n) := by
  induction n with
  | zero => intro l x l' h; unfold take at h; cases h
  | succ n ih =>
    intro l x l' h
    cases l with
    | nil => unfold take at h; cases h
    | cons m l =>
      rw [take] at h
      split at h
      · next hm =>
        obtain ⟨a1, a2, a3, a4, _⟩ := terms_good ih h
        refine ⟨?_, a2, a3⟩
        rw [a1]
        have : m = (x.length : Int) := by rw [a4]; omega
        rw [this]; rfl
      · cases h
/-- what is left is not longer -/
theorem take_len {n : Nat} {l l' : List Int} {x : O} (h : take n l = some (x, l')) : l'.length < l.length := by
  obtain ⟨a, _, _⟩ := take_good n _ _ _ h
  rw [a]; unfold row; simp; omega
theorem terms_full {n : Nat} (ih : ∀ x l, NF x → most x ≤ 9999 → (size x ≤ 60) → size x < n → take n (row x ++ l) = some (x, l)) :
    ∀ (r : O) (last : Option O) (l : List Int), NF r → most r ≤ 9999 → size r ≤ 60 → size r ≤ n → (∀ f, last = some f → below f r) → terms (take n) r.length last (flat r ++ l) = some (r, l) := by
  intro r
  induction r with
  | nil => intro last l _ _ _ _ _; rw [flat_nil]; unfold terms; rfl
  | cons t r ihr =>
    intro last l h1 h2 h3 h4 h5
    obtain ⟨c, e⟩ := t
    obtain ⟨a1, a2, a3, a4⟩ := NF_cons.1 h1
    rw [most_cons] at h2
    rw [size_cons] at h3 h4
    have := size_pos r
    have := size_pos e
    rw [flat_cons]
    simp only [List.length_cons, List.cons_append, List.append_assoc]
    rw [terms, if_pos ⟨a1, by omega⟩, ih e _ a2 (by omega) (by omega) (by omega)]
    simp only
    have hl : ¬ late last e = true := by
      unfold late
      cases last with
      | none => simp
      | some f =>
        have := h5 f rfl
        simp only [decide_eq_true_eq]
        rw [below_cons] at this
        rw [this]; omega
    rw [if_neg hl, ihr (some e) l a3 (by omega) (by omega) (by omega) (fun f hf => by injection hf with hf; subst hf; exact a4)]
theorem take_full : ∀ (n : Nat) (x : O) (l : List Int), NF x → most x ≤ 9999 → size x ≤ 60 → size x < n → take n (row x ++ l) = some (x, l) := by
  intro n
  induction n with
  | zero => intro x l _ _ _ h; have := size_pos x; omega
  | succ n ih =>
    intro x l h1 h2 h3 h4
    have := length_le_size x
    unfold row
    rw [List.cons_append, take, if_pos ⟨by omega, by omega⟩, Int.toNat_natCast]
    exact terms_full (fun x l a b c d => ih x l a b c d) x none l h1 h2 h3 (by omega) (fun f hf => by cases hf)
theorem terms_congr {tk tk' : List Int → Option (O × List Int)} : ∀ (c : Nat) (last : Option O) (l : List Int), (∀ l', l'.length ≤ l.length → tk l' = tk' l') → (∀ l' x l'', tk' l' = some (x, l'') → l''.length ≤ l'.length) → terms tk c last l = terms tk' c last l := by
  intro c
  induction c with
  | zero => intro last l _ _; unfold terms; rfl
  | succ c ih =>
    intro last l h g
    cases l with
    | nil => unfold terms; rfl
    | cons t l =>
      rw [terms, terms, h l (by simp)]
      split
      · split
        · rfl
        · next e l1 he =>
          have := g _ _ _ he
          rw [ih (some e) l1 (fun l' hl => h l' (by simp; omega)) g]
      · rfl
theorem take_fuel : ∀ (n m : Nat) (l : List Int), l.length < n → l.length < m → take n l = take m l := by
  intro n
  induction n with
  | zero => intro m l h; omega
  | succ n ih =>
    intro m l h1 h2
    obtain ⟨m, rfl⟩ : ∃ q, m = q + 1 := ⟨m - 1, by omega⟩
    cases l with
    | nil => unfold take; rfl
    | cons t l =>
      simp only [List.length_cons] at h1 h2
      rw [take, take]
      split
      · exact terms_congr _ _ _ (fun l' hl => ih m l' (by omega) (by omega)) (fun l' x l'' h => Nat.le_of_lt (take_len h))
      · rfl

/-! #### valid ordinals -/
def Vd (x : O) : Prop := NF x ∧ most x ≤ 9999 ∧ size x ≤ 60
theorem Vd_cons {c : Int} {e r : O} (h : Vd (⟨c, e⟩ :: r)) : Vd e ∧ Vd r ∧ 1 ≤ c ∧ c ≤ 9999 := by
  obtain ⟨h1, h2, h3⟩ := h
  obtain ⟨g1, g2, g3, g4⟩ := NF_cons.1 h1
  rw [most_cons] at h2
  rw [size_cons] at h3
  have := size_pos e
  have := size_pos r
  exact ⟨⟨g2, by omega, by omega⟩, ⟨g3, by omega, by omega⟩, g1, by omega⟩
theorem Vd_nil : Vd [] := ⟨NF_nil, by rw [most_nil]; omega, by rw [size_nil]; omega⟩
theorem Vd.size {x : O} (h : Vd x) : size x ≤ 60 := h.2.2
def ordOf (l : List Int) : Option O := if 1 ≤ l.length ∧ l.length ≤ 60 then (match take 61 l with | some (x, []) => some x | _ => none) else none
theorem ordOf_some {l : List Int} {x : O} (h : ordOf l = some x) : l = row x ∧ Vd x := by
  unfold ordOf at h
  split at h
  · next hl =>
    split at h
    · next y he =>
      injection h with h
      subst h
      obtain ⟨a1, a2, a3⟩ := take_good _ _ _ _ he
      rw [List.append_nil] at a1
      have := row_length y
      rw [← a1] at this
      exact ⟨a1, a2, a3, by omega⟩
    · cases h
  · cases h
theorem ordOf_row {x : O} (h : Vd x) : ordOf (row x) = some x := by
  obtain ⟨h1, h2, h3⟩ := h
  have h4 := row_length x
  have h5 := size_pos x
  have h6 := take_full 61 x [] h1 h2 h3 (by omega)
  rw [List.append_nil] at h6
  unfold ordOf
  rw [if_pos ⟨by omega, by omega⟩, h6]
theorem row_inj {x y : O} (hx : Vd x) (hy : Vd y) (h : row x = row y) : x = y := by
  have h1 := ordOf_row hx
  rw [h, ordOf_row hy] at h1
  injection h1 with h1
  exact h1.symm
end OM
