/- Numbers and their ordinals are in the same order: the law's pure statement. -/
import Derived.Test.YtpgkpahhohfmhaaTm
import Derived.Test.YtpgkpahhohfmhaaP0
import Derived.Test.YtpgkpahhohfmhaaPcmpCompareint
import Derived.Test.YtpgkpahhohfmhaaPimplcompare
import Derived.Test.YtpgkpahhohfmhaaPimpltakeOrd
import Derived.Test.YtpgkpahhohfmhaaPimplordOf
import Derived.Test.YtpgkpahhohfmhaaPimplrowOf
import Derived.Test.YtpgkpahhohfmhaaPimplsizeOf
import Derived.Test.YtpgkpahhohfmhaaPimplmost
import Derived.Test.YtpgkpahhohfmhaaPimpltold
import Derived.Test.YtpgkpahhohfmhaaPspecl1In
import Derived.Test.YtpgkpahhohfmhaaPspecl1Make
import Derived.Test.YtpgkpahhohfmhaaPimplOrdOf
import Derived.Test.YtpgkpahhohfmhaaPimplnumber
import Derived.Test.YtpgkpahhohfmhaaPlawssameInts
import Derived.Test.YtpgkpahhohfmhaaPlawsalive
import Derived.Test.YtpgkpahhohfmhaaPimplOrdCompare
import Derived.Test.YtpgkpahhohfmhaaPimplBaseOk
import Derived.Test.YtpgkpahhohfmhaaPimplOrdValid
import Derived.Test.YtpgkpahhohfmhaaPspecl4Ord
import Derived.Test.YtpgkpahhohfmhaaPimplinBase
import Derived.Test.YtpgkpahhohfmhaaPimpldigits
import Derived.Test.YtpgkpahhohfmhaaPspecOrdInBase
import Derived.Test.YtpgkpahhohfmhaaPimplOrdInBase
import Derived.Test.YtpgkpahhohfmhaaPimplSlowValue
import Derived.Test.YtpgkpahhohfmhaaPimplslow
import Derived.Test.YtpgkpahhohfmhaaPspecl20Open
import Derived.Test.YtpgkpahhohfmhaaPspecl20Rdpick
import Derived.Test.YtpgkpahhohfmhaaPspecl20Count
import Derived.Test.YtpgkpahhohfmhaaPspecl20Root
import Derived.Test.YtpgkpahhohfmhaaPlawsFnOrdInBase
import Derived.Test.YtpgkpahhohfmhaaPspecDrawOrdInBase
set_option linter.unusedSimpArgs false
namespace OM
theorem ind {P : O → Prop} (h0 : P []) (h1 : ∀ c e r, P e → P r → P (⟨c, e⟩ :: r)) : ∀ x, P x
  | [] => h0
  | ⟨c, e⟩ :: r => h1 c e r (ind h0 h1 e) (ind h0 h1 r)

def cmp : O → O → Int
  | [], [] => 0
  | [], _ :: _ => -1
  | _ :: _, [] => 1
  | ⟨c, e⟩ :: r, ⟨d, f⟩ :: s => if cmp e f = 0 then (if c < d then -1 else if d < c then 1 else cmp r s) else cmp e f

theorem cmp_nn : cmp [] [] = 0 := by unfold cmp; rfl
theorem cmp_nc (t : Tm) (y : O) : cmp [] (t :: y) = -1 := by cases t; unfold cmp; rfl
theorem cmp_cn (t : Tm) (y : O) : cmp (t :: y) [] = 1 := by cases t; unfold cmp; rfl
theorem cmp_cc (c d : Int) (e r f s : O) : cmp (⟨c, e⟩ :: r) (⟨d, f⟩ :: s) = if cmp e f = 0 then (if c < d then -1 else if d < c then 1 else cmp r s) else cmp e f := by rw [cmp]

theorem cmp_range : ∀ x y : O, cmp x y = -1 ∨ cmp x y = 0 ∨ cmp x y = 1 := by
  intro x
  induction x using ind with
  | h0 => intro y; cases y with
    | nil => exact .inr (.inl cmp_nn)
    | cons t y => exact .inl (cmp_nc t y)
  | h1 c e r ihe ihr =>
    intro y; cases y with
    | nil => exact .inr (.inr (cmp_cn _ _))
    | cons t s =>
      obtain ⟨d, f⟩ := t
      rw [cmp_cc]
      have := ihe f
      have := ihr s
      split
      · split
        · exact .inl rfl
        · split
          · exact .inr (.inr rfl)
          · assumption
      · assumption

theorem cmp_self (x : O) : cmp x x = 0 := by
  induction x using ind with
  | h0 => exact cmp_nn
  | h1 c e r ihe ihr => rw [cmp_cc, if_pos ihe, if_neg (by omega), if_neg (by omega)]; exact ihr

theorem cmp_eq : ∀ {x y : O}, cmp x y = 0 → x = y := by
  intro x
  induction x using ind with
  | h0 => intro y h; cases y with
    | nil => rfl
    | cons t y => rw [cmp_nc] at h; omega
  | h1 c e r ihe ihr =>
    intro y h; cases y with
    | nil => rw [cmp_cn] at h; omega
    | cons t s =>
      obtain ⟨d, f⟩ := t
      rw [cmp_cc] at h
      split at h
      · next h1 =>
        split at h
        · omega
        · split at h
          · omega
          · rw [ihe h1, ihr h]; have : c = d := by omega
            rw [this]
      · contradiction

theorem cmp_anti : ∀ x y : O, cmp y x = - cmp x y := by
  intro x
  induction x using ind with
  | h0 => intro y; cases y with
    | nil => rw [cmp_nn]; rfl
    | cons t y => rw [cmp_nc, cmp_cn]; rfl
  | h1 c e r ihe ihr =>
    intro y; cases y with
    | nil => rw [cmp_nc, cmp_cn]
    | cons t s =>
      obtain ⟨d, f⟩ := t
      rw [cmp_cc, cmp_cc, ihe f, ihr s]
      have := cmp_range e f
      split <;> split <;> first | omega | (repeat' split) <;> omega

theorem cmp_trans : ∀ {x y z : O}, cmp x y = -1 → cmp y z = -1 → cmp x z = -1 := by
  intro x
  induction x using ind with
  | h0 => intro y z h1 h2; cases z with
    | nil => cases y with
      | nil => exact h1
      | cons t y => rw [cmp_cn] at h2; omega
    | cons t z => exact cmp_nc _ _
  | h1 c e r ihe ihr =>
    intro y z h1 h2
    cases y with
    | nil => rw [cmp_cn] at h1; omega
    | cons t s =>
      obtain ⟨d, f⟩ := t
      cases z with
      | nil => rw [cmp_cn] at h2; omega
      | cons u w =>
        obtain ⟨g, h⟩ := u
        rw [cmp_cc] at h1 h2 ⊢
        by_cases a : cmp e f = 0
        · have a' := cmp_eq a
          subst a'
          rw [if_pos a] at h1
          by_cases b : cmp e h = 0
          · rw [if_pos b] at h2 ⊢
            by_cases c1 : c < g
            · rw [if_pos c1]
            · rw [if_neg c1]
              split at h1
              · split at h2
                · omega
                · split at h2 <;> omega
              · split at h1
                · omega
                · split at h2
                  · omega
                  · split at h2
                    · omega
                    · rw [if_neg (by omega)]; exact ihr h1 h2
          · rw [if_neg b] at h2 ⊢; exact h2
        · rw [if_neg a] at h1
          by_cases b : cmp f h = 0
          · have b' := cmp_eq b
            subst b'
            rw [if_neg a]; exact h1
          · rw [if_neg b] at h2
            have := ihe h1 h2
            rw [if_neg (by omega)]; exact this

def Lt (x y : O) : Prop := cmp x y = -1
theorem Lt.trans {x y z : O} (h : Lt x y) (g : Lt y z) : Lt x z := cmp_trans h g
theorem Lt.irrefl (x : O) : ¬ Lt x x := by unfold Lt; rw [cmp_self]; omega
theorem Lt.gt {x y : O} (h : Lt x y) : cmp y x = 1 := by have := cmp_anti x y; unfold Lt at h; omega
theorem gt_lt {x y : O} (h : cmp x y = 1) : Lt y x := by have := cmp_anti x y; unfold Lt; omega
theorem tri (x y : O) : Lt x y ∨ x = y ∨ Lt y x := by
  rcases cmp_range x y with h | h | h
  · exact .inl h
  · exact .inr (.inl (cmp_eq h))
  · exact .inr (.inr (gt_lt h))
theorem not_lt_nil (x : O) : ¬ Lt x [] := by
  unfold Lt; cases x with
  | nil => rw [cmp_nn]; omega
  | cons t y => rw [cmp_cn]; omega
theorem cmp_lt {x y : O} (h : Lt x y) : cmp x y = -1 := h
/-- the ways in which two that are not empty are compared -/
theorem cmp_lt_e {e f : O} (h : Lt e f) (c d : Int) (r s : O) : cmp (⟨c, e⟩ :: r) (⟨d, f⟩ :: s) = -1 := by rw [cmp_cc, h]; rfl
theorem cmp_gt_e {e f : O} (h : Lt f e) (c d : Int) (r s : O) : cmp (⟨c, e⟩ :: r) (⟨d, f⟩ :: s) = 1 := by rw [cmp_cc, h.gt]; rfl
theorem cmp_eq_e (e : O) (c d : Int) (r s : O) : cmp (⟨c, e⟩ :: r) (⟨d, e⟩ :: s) = if c < d then -1 else if d < c then 1 else cmp r s := by rw [cmp_cc, if_pos (cmp_self e)]
theorem cmp_eq_t (e : O) (c : Int) (r s : O) : cmp (⟨c, e⟩ :: r) (⟨c, e⟩ :: s) = cmp r s := by rw [cmp_eq_e, if_neg (by omega), if_neg (by omega)]
theorem cmp_lt_c {c d : Int} (h : c < d) (e : O) (r s : O) : cmp (⟨c, e⟩ :: r) (⟨d, e⟩ :: s) = -1 := by rw [cmp_eq_e, if_pos h]
theorem cmp_gt_c {c d : Int} (h : d < c) (e : O) (r s : O) : cmp (⟨c, e⟩ :: r) (⟨d, e⟩ :: s) = 1 := by rw [cmp_eq_e, if_neg (by omega), if_pos h]

def below (e : O) : O → Prop
  | [] => True
  | ⟨_, f⟩ :: _ => Lt f e
def NF : O → Prop
  | [] => True
  | ⟨c, e⟩ :: r => 1 ≤ c ∧ NF e ∧ NF r ∧ below e r
def size : O → Int
  | [] => 1
  | ⟨_, e⟩ :: r => 1 + size e + size r
def most : O → Int
  | [] => 0
  | ⟨c, e⟩ :: r => max c (max (most e) (most r))
theorem NF_nil : NF [] := by unfold NF; trivial
theorem NF_cons {c : Int} {e r : O} : NF (⟨c, e⟩ :: r) ↔ 1 ≤ c ∧ NF e ∧ NF r ∧ below e r := by rw [NF]
theorem size_nil : size [] = 1 := by unfold size; rfl
theorem size_cons (c : Int) (e r : O) : size (⟨c, e⟩ :: r) = 1 + size e + size r := by rw [size]
theorem most_nil : most [] = 0 := by unfold most; rfl
theorem most_cons (c : Int) (e r : O) : most (⟨c, e⟩ :: r) = max c (max (most e) (most r)) := by rw [most]
theorem size_pos (x : O) : 1 ≤ size x := by
  induction x using ind with
  | h0 => rw [size_nil]; omega
  | h1 c e r ihe ihr => rw [size_cons]; omega
theorem most_pos (x : O) : 0 ≤ most x := by
  induction x using ind with
  | h0 => rw [most_nil]; omega
  | h1 c e r ihe ihr => rw [most_cons]; omega
theorem below_cons {e f : O} {c : Int} {r : O} : below e (⟨c, f⟩ :: r) ↔ Lt f e := Iff.rfl
/-- what is below is less than every term of the exponent -/
theorem below.lt {e : O} : ∀ {x : O}, below e x → ∀ (c : Int) (r : O), Lt x (⟨c, e⟩ :: r)
  | [], _, _, _ => cmp_nc _ _
  | ⟨_, _⟩ :: _, hx, _, _ => cmp_lt_e hx _ _ _ _
end OM

namespace OM
def add : O → O → O
  | x, [] => x
  | [], y => y
  | ⟨c, e⟩ :: r, ⟨d, f⟩ :: s => if cmp e f = 1 then ⟨c, e⟩ :: add r (⟨d, f⟩ :: s) else if cmp e f = 0 then ⟨c + d, f⟩ :: s else ⟨d, f⟩ :: s
theorem add_nil (x : O) : add x [] = x := by cases x <;> (unfold add; rfl)
theorem nil_add (x : O) : add [] x = x := by cases x <;> (unfold add; rfl)
theorem add_gt {e f : O} (h : Lt f e) (c d : Int) (r s : O) : add (⟨c, e⟩ :: r) (⟨d, f⟩ :: s) = ⟨c, e⟩ :: add r (⟨d, f⟩ :: s) := by
  rw [add, h.gt, if_pos rfl]
theorem add_eq (e : O) (c d : Int) (r s : O) : add (⟨c, e⟩ :: r) (⟨d, e⟩ :: s) = ⟨c + d, e⟩ :: s := by
  rw [add, cmp_self]; rfl
theorem add_lt {e f : O} (h : Lt e f) (c d : Int) (r s : O) : add (⟨c, e⟩ :: r) (⟨d, f⟩ :: s) = ⟨d, f⟩ :: s := by
  rw [add, cmp_lt h]; rfl
theorem add_ne_nil {x y : O} (h : y ≠ []) : add x y ≠ [] := by
  cases y with
  | nil => exact absurd rfl h
  | cons u s =>
    obtain ⟨d, f⟩ := u
    cases x with
    | nil => rw [nil_add]; exact h
    | cons t r =>
      obtain ⟨c, e⟩ := t
      rcases tri e f with a | a | a
      · rw [add_lt a]; exact h
      · subst a; rw [add_eq]; simp
      · rw [add_gt a]; simp

theorem add_assoc : ∀ x y z : O, add (add x y) z = add x (add y z) := by
  intro x
  induction x with
  | nil => intro y z; rw [nil_add, nil_add]
  | cons t r ih =>
    intro y z
    obtain ⟨c, e⟩ := t
    cases y with
    | nil => rw [add_nil, nil_add]
    | cons u s =>
      obtain ⟨d, f⟩ := u
      cases z with
      | nil => rw [add_nil, add_nil]
      | cons v t =>
        obtain ⟨g, h⟩ := v
        rcases tri e f with a | a | a
        · rw [add_lt a]
          rcases tri f h with b | b | b
          · rw [add_lt b, add_lt (a.trans b)]
          · subst b; rw [add_eq, add_lt a]
          · rw [add_gt b, add_lt a]
        · subst a
          rw [add_eq]
          rcases tri e h with b | b | b
          · rw [add_lt b, add_lt b, add_lt b]
          · subst b; rw [add_eq, add_eq, add_eq]; congr 2; omega
          · rw [add_gt b, add_gt b, add_eq]
        · rw [add_gt a]
          rcases tri f h with b | b | b
          · rw [add_lt b]
            rcases tri e h with k | k | k
            · rw [add_lt k, add_lt k]
            · subst k; rw [add_eq, add_eq]
            · rw [add_gt k, ih, add_lt b, add_gt k]
          · subst b; rw [add_eq, add_gt a, add_gt a, ih, add_eq]
          · rw [add_gt b, add_gt (b.trans a), ih, add_gt b, add_gt a]

/-- sums keep the order of what stands behind -/
theorem add_cmp : ∀ {x y z : O}, NF y → NF z → cmp (add x y) (add x z) = cmp y z := by
  intro x
  induction x with
  | nil => intro y z _ _; rw [nil_add, nil_add]
  | cons t r ih =>
    intro y z hy hz
    obtain ⟨c, e⟩ := t
    cases y with
    | nil =>
      cases z with
      | nil => rw [cmp_self, cmp_self]
      | cons v t =>
        obtain ⟨g, h⟩ := v
        have hg := (NF_cons.1 hz).1
        rw [add_nil, cmp_nc]
        rcases tri e h with b | b | b
        · rw [add_lt b, cmp_lt_e b]
        · subst b; rw [add_eq, cmp_lt_c (by omega)]
        · rw [add_gt b, cmp_eq_t]
          have := @ih [] (⟨g, h⟩ :: t) hy hz
          rw [add_nil, cmp_nc] at this; exact this
    | cons u s =>
      obtain ⟨d, f⟩ := u
      have hd := (NF_cons.1 hy).1
      cases z with
      | nil =>
        rw [add_nil, cmp_cn]
        rcases tri e f with b | b | b
        · rw [add_lt b, cmp_gt_e b]
        · subst b; rw [add_eq, cmp_gt_c (by omega)]
        · rw [add_gt b, cmp_eq_t]
          have := @ih (⟨d, f⟩ :: s) [] hy hz
          rw [add_nil, cmp_cn] at this; exact this
      | cons v t =>
        obtain ⟨g, h⟩ := v
        have hg := (NF_cons.1 hz).1
        rcases tri e f with a | a | a
        · rw [add_lt a]
          rcases tri e h with b | b | b
          · rw [add_lt b]
          · subst b; rw [add_eq, cmp_gt_e a, cmp_gt_e a]
          · rw [add_gt b, cmp_gt_e a, cmp_gt_e (b.trans a)]
        · subst a
          rw [add_eq]
          rcases tri e h with b | b | b
          · rw [add_lt b, cmp_lt_e b, cmp_lt_e b]
          · subst b; rw [add_eq, cmp_eq_e, cmp_eq_e]
            by_cases k : d < g
            · rw [if_pos k, if_pos (by omega)]
            · by_cases k' : g < d
              · rw [if_neg k, if_pos k', if_neg (by omega), if_pos (by omega)]
              · rw [if_neg k, if_neg k', if_neg (by omega), if_neg (by omega)]
          · rw [add_gt b, cmp_gt_e b, cmp_gt_c (by omega)]
        · rw [add_gt a]
          rcases tri e h with b | b | b
          · rw [add_lt b, cmp_lt_e b, cmp_lt_e (a.trans b)]
          · subst b; rw [add_eq, cmp_lt_e a, cmp_lt_c (by omega)]
          · rw [add_gt b, cmp_eq_t]; exact ih hy hz
/-- what is below a term's exponent stands behind it -/
theorem cons_add {c : Int} {e r y : O} (h : below e y) : add (⟨c, e⟩ :: r) y = ⟨c, e⟩ :: add r y := by
  cases y with
  | nil => rw [add_nil, add_nil]
  | cons u s => obtain ⟨d, f⟩ := u; exact add_gt h _ _ _ _

def mul : O → O → O
  | [], _ => []
  | _, [] => []
  | ⟨c, e⟩ :: r, ⟨d, f⟩ :: s => if f.isEmpty then ⟨c * d, e⟩ :: r else ⟨d, add e f⟩ :: mul (⟨c, e⟩ :: r) s
termination_by _ y => y.length
decreasing_by simp
theorem nil_mul (y : O) : mul [] y = [] := by cases y <;> (unfold mul; rfl)
theorem mul_nil (x : O) : mul x [] = [] := by cases x <;> (unfold mul; rfl)
theorem mul_fin (c d : Int) (e r s : O) : mul (⟨c, e⟩ :: r) (⟨d, []⟩ :: s) = ⟨c * d, e⟩ :: r := by rw [mul]; rfl
theorem mul_cons {f : O} (h : f ≠ []) (c d : Int) (e r s : O) : mul (⟨c, e⟩ :: r) (⟨d, f⟩ :: s) = ⟨d, add e f⟩ :: mul (⟨c, e⟩ :: r) s := by
  rw [mul, if_neg]; cases f with
  | nil => exact absurd rfl h
  | cons _ _ => simp
theorem add_lt_add {e f g : O} (hf : NF f) (hg : NF g) (h : Lt f g) : Lt (add e f) (add e g) := by
  unfold Lt; rw [add_cmp hf hg]; exact h
theorem ne_of_gt {f h : O} (a : Lt h f) : f ≠ [] := by rintro rfl; exact not_lt_nil _ a
/-- the first exponent of a product -/
theorem mul_head {c d : Int} {e r f s : O} : ∃ d' s', mul (⟨c, e⟩ :: r) (⟨d, f⟩ :: s) = ⟨d', add e f⟩ :: s' := by
  by_cases h : f = []
  · subst h; exact ⟨_, _, by rw [mul_fin, add_nil]⟩
  · exact ⟨_, _, mul_cons h _ _ _ _ _⟩
theorem mul_below {c : Int} {e r f z : O} (hf : NF f) (hz : NF z) (h : below f z) : below (add e f) (mul (⟨c, e⟩ :: r) z) := by
  cases z with
  | nil => rw [mul_nil]; trivial
  | cons v t =>
    obtain ⟨g, h'⟩ := v
    obtain ⟨d', s', k⟩ := @mul_head c g e r h' t
    rw [k]
    exact add_lt_add (NF_cons.1 hz).2.1 hf h
theorem mul_add {x : O} : ∀ {y z : O}, NF y → NF z → mul x (add y z) = add (mul x y) (mul x z) := by
  intro y
  cases x with
  | nil => intro z _ _; rw [nil_mul, nil_mul, nil_mul, nil_add]
  | cons t r =>
    obtain ⟨c, e⟩ := t
    induction y with
    | nil => intro z _ _; rw [nil_add, mul_nil, nil_add]
    | cons u s ih =>
      intro z hy hz
      obtain ⟨d, f⟩ := u
      obtain ⟨h1, h2, h3, h4⟩ := NF_cons.1 hy
      cases z with
      | nil => rw [add_nil, mul_nil, add_nil]
      | cons v t =>
        obtain ⟨g, h⟩ := v
        obtain ⟨g1, g2, g3, g4⟩ := NF_cons.1 hz
        rcases tri f h with a | a | a
        · rw [add_lt a]
          obtain ⟨d1, s1, k1⟩ := @mul_head c d e r f s
          obtain ⟨d2, s2, k2⟩ := @mul_head c g e r h t
          rw [k1, k2, add_lt (add_lt_add h2 g2 a)]
        · subst a
          rw [add_eq]
          by_cases k : f = []
          · subst k; rw [mul_fin, mul_fin, mul_fin, add_eq, Int.mul_add]
          · rw [mul_cons k, mul_cons k, mul_cons k, add_eq]
        · have k := ne_of_gt a
          rw [add_gt a, mul_cons k, mul_cons k, ih h3 hz]
          exact (cons_add (mul_below h2 hz a)).symm
theorem mul_assoc {x y : O} (hy : NF y) : ∀ {z : O}, NF z → mul (mul x y) z = mul x (mul y z) := by
  intro z
  cases x with
  | nil => intro _; rw [nil_mul, nil_mul, nil_mul]
  | cons t r =>
    obtain ⟨c, e⟩ := t
    cases y with
    | nil => intro _; rw [mul_nil, nil_mul, mul_nil]
    | cons u s =>
      obtain ⟨d, f⟩ := u
      obtain ⟨h1, h2, h3, h4⟩ := NF_cons.1 hy
      obtain ⟨d1, s1, k1⟩ := @mul_head c d e r f s
      induction z with
      | nil => intro _; rw [mul_nil, mul_nil, mul_nil]
      | cons v t ih =>
        intro hz
        obtain ⟨g, h⟩ := v
        obtain ⟨g1, g2, g3, g4⟩ := NF_cons.1 hz
        by_cases k : h = []
        · subst k
          rw [mul_fin]
          by_cases k' : f = []
          · subst k'; rw [mul_fin, mul_fin, mul_fin, Int.mul_assoc]
          · rw [mul_cons k', mul_cons k', mul_fin]
        · have := ih g3
          rw [mul_cons k, mul_cons (add_ne_nil k), ← this, k1, mul_cons k, add_assoc]
theorem mul_one (x : O) : mul x [⟨1, []⟩] = x := by
  cases x with
  | nil => rw [nil_mul]
  | cons t r => obtain ⟨c, e⟩ := t; rw [mul_fin, Int.mul_one]
end OM

namespace OM
/-- what a division tells -/
structure IsDiv (x y : O) (p : O × O) : Prop where
  sum : add (mul y p.1) p.2 = x
  lt : Lt p.2 y
  nf : NF p.1
  nf2 : NF p.2
end OM

namespace OM
end OM

namespace OM
def bef : O → O
  | [] => []
  | [⟨c, e⟩] => if c = 1 then [] else [⟨c - 1, e⟩]
  | t :: u :: r => t :: bef (u :: r)
def kind : O → Int
  | [] => 0
  | [⟨_, e⟩] => if e.isEmpty then 1 else 2
  | _ :: u :: r => kind (u :: r)
theorem NF_append_last {p : O} {c : Int} {e : O} : NF (p ++ [⟨c, e⟩]) → 1 ≤ c ∧ NF e := by
  induction p with
  | nil => intro h; exact ⟨(NF_cons.1 h).1, (NF_cons.1 h).2.1⟩
  | cons t r ih => intro h; obtain ⟨d, f⟩ := t; exact ih (NF_cons.1 h).2.2.1
/-- what takes the place of one w to the power of e -/
def step (n : Int) : O → O
  | [] => []
  | [⟨c, e⟩] => (if c = 1 then [] else [⟨c - 1, e⟩]) ++ (if kind e = 2 then [⟨1, step n e⟩] else if kind e = 1 ∧ 0 < n then [⟨n, bef e⟩] else [])
  | t :: u :: r => t :: step n (u :: r)
end OM

namespace OM
def val (n : Int) : O → Int
  | [] => 0
  | ⟨c, e⟩ :: r => c * n ^ (val n e).toNat + val n r
theorem val_nil (n : Int) : val n [] = 0 := by unfold val; rfl
theorem val_cons (n c : Int) (e r : O) : val n (⟨c, e⟩ :: r) = c * n ^ (val n e).toNat + val n r := by rw [val]
theorem pow_pos {n : Int} (hn : 1 ≤ n) (k : Nat) : 1 ≤ n ^ k := by
  induction k with
  | zero => simp
  | succ k ih => rw [Int.pow_succ]; have := Int.mul_le_mul ih hn (by omega) (by omega); omega
theorem pow_mono {n : Int} (hn : 1 ≤ n) {j k : Nat} (h : j ≤ k) : n ^ j ≤ n ^ k := by
  induction h with
  | refl => exact Int.le_refl _
  | step _ ih =>
    rw [Int.pow_succ]
    have := pow_pos hn ‹Nat›
    have := Int.mul_le_mul (Int.le_refl (n ^ ‹Nat›)) hn (by omega) (by omega)
    rw [Int.mul_one] at this
    omega
theorem mul_pow_pos {n c : Int} (hn : 1 ≤ n) (hc : 1 ≤ c) (k : Nat) : n ^ k ≤ c * n ^ k := by
  have := pow_pos hn k
  have := Int.mul_le_mul_of_nonneg_right hc (show 0 ≤ n ^ k by omega)
  omega
theorem val_nonneg {n : Int} (hn : 1 ≤ n) : ∀ {x : O}, NF x → 0 ≤ val n x := by
  intro x
  induction x using ind with
  | h0 => intro _; rw [val_nil]; omega
  | h1 c e r ihe ihr =>
    intro h
    obtain ⟨h1, h2, h3, h4⟩ := NF_cons.1 h
    rw [val_cons]
    have := ihr h3
    have := mul_pow_pos hn h1 (val n e).toNat
    have := pow_pos hn (val n e).toNat
    omega
theorem val_pos {n : Int} (hn : 1 ≤ n) {x : O} (h : NF x) (hx : x ≠ []) : 1 ≤ val n x := by
  cases x with
  | nil => exact absurd rfl hx
  | cons t r =>
    obtain ⟨c, e⟩ := t
    obtain ⟨h1, h2, h3, h4⟩ := NF_cons.1 h
    rw [val_cons]
    have := val_nonneg hn h3
    have := mul_pow_pos hn h1 (val n e).toNat
    have := pow_pos hn (val n e).toNat
    omega
theorem val_append (n : Int) (x y : O) : val n (x ++ y) = val n x + val n y := by
  induction x with
  | nil => rw [val_nil]; simp
  | cons t r ih => obtain ⟨c, e⟩ := t; show val n (⟨c, e⟩ :: (r ++ y)) = _; rw [val_cons, val_cons, ih]; omega
/-- of ordinals whose numbers are all less than the base the greater one has the greater value -/
theorem val_mono {n : Int} (hn : 1 ≤ n) : ∀ {x y : O}, NF x → NF y → most x < n → Lt x y → val n x < val n y := by
  intro x
  induction x using ind with
  | h0 =>
    intro y _ hy _ h
    have : y ≠ [] := by rintro rfl; exact Lt.irrefl _ h
    have := val_pos hn hy this
    rw [val_nil]; omega
  | h1 c e r ihe ihr =>
    intro y hx hy hm h
    obtain ⟨h1, h2, h3, h4⟩ := NF_cons.1 hx
    rw [most_cons] at hm
    cases y with
    | nil => exact absurd h (not_lt_nil _)
    | cons u s =>
      obtain ⟨d, f⟩ := u
      obtain ⟨g1, g2, g3, g4⟩ := NF_cons.1 hy
      have hr : val n r < n ^ (val n e).toNat := by
        have := ihr (y := [⟨1, e⟩]) h3 (NF_cons.2 ⟨by omega, h2, NF_nil, trivial⟩) (by omega) (below.lt h4 _ _)
        rw [val_cons, val_nil] at this; omega
      have hs := val_nonneg hn g3
      have hp := pow_pos hn (val n e).toNat
      rw [val_cons, val_cons]
      unfold Lt at h
      rw [cmp_cc] at h
      by_cases z : cmp e f = 0
      · rw [if_pos z] at h
        have := cmp_eq z
        subst this
        by_cases z1 : c < d
        · have : (c + 1) * n ^ (val n e).toNat ≤ d * n ^ (val n e).toNat := Int.mul_le_mul_of_nonneg_right (by omega) (by omega)
          rw [Int.add_mul] at this; omega
        · rw [if_neg z1] at h
          split at h
          · omega
          · have : c = d := by omega
            subst this
            have := ihr h3 g3 (by omega) h
            omega
      · rw [if_neg z] at h
        have hv := ihe h2 g2 (by omega) h
        have hv0 := val_nonneg hn h2
        have h5 : (c + 1) * n ^ (val n e).toNat ≤ n * n ^ (val n e).toNat := Int.mul_le_mul_of_nonneg_right (by omega) (by omega)
        have h6 : n ^ ((val n e).toNat + 1) ≤ n ^ (val n f).toNat := pow_mono hn (by omega)
        have h7 := mul_pow_pos hn g1 (val n f).toNat
        rw [Int.pow_succ, Int.mul_comm] at h6
        rw [Int.add_mul] at h5
        omega
theorem val_cmp {n : Int} (hn : 1 ≤ n) {x y : O} (hx : NF x) (hy : NF y) (mx : most x < n) (my : most y < n) : cmp x y = if val n x < val n y then -1 else if val n y < val n x then 1 else 0 := by
  rcases tri x y with h | h | h
  · rw [if_pos (val_mono hn hx hy mx h)]; exact h
  · subst h; rw [if_neg (by omega), if_neg (by omega)]; exact cmp_self _
  · have := val_mono hn hy hx my h
    rw [if_neg (by omega), if_pos this]; exact h.gt
theorem val_inj {n : Int} (hn : 1 ≤ n) {x y : O} (hx : NF x) (hy : NF y) (mx : most x < n) (my : most y < n) (h : val n x = val n y) : x = y := by
  apply cmp_eq
  rw [val_cmp hn hx hy mx my, if_neg (by omega), if_neg (by omega)]
end OM

namespace OM
def Tells {α : Type} (g : Nat → Option α) (r : α) : Prop := ∃ K, ∀ k, K ≤ k → g k = some r
section
variable {α β : Type} {a : α} {r : β}
theorem Tells.now (r : α) : Tells (fun _ => some r) r := ⟨0, fun _ _ => rfl⟩
theorem Tells.const {x : Option α} (h : x = some a) : Tells (fun _ => x) a := ⟨0, fun _ _ => h⟩
theorem Tells.rounds {g : Nat → Option α} (h : Tells g a) : ∃ k, g k = some a := by
  obtain ⟨K, h⟩ := h
  exact ⟨K, h K (Nat.le_refl _)⟩
theorem Tells.bind {g : Nat → Option α} {f : Nat → α → Option β} (h : Tells g a) (e : Tells (fun k => f k a) r) : Tells (fun k => (g k).bind (f k)) r := by
  obtain ⟨K, h⟩ := h
  obtain ⟨M, e⟩ := e
  refine ⟨max K M, fun k hk => ?_⟩
  show (g k).bind (f k) = some r
  rw [h k (by omega)]
  exact e k (by omega)
theorem Tells.sbind {f : Nat → α → Option β} (e : Tells (fun k => f k a) r) : Tells (fun k => (some a).bind (f k)) r := e
theorem Tells.step {g f : Nat → Option α} (h : ∀ k, g (k + 1) = f k) (e : Tells f a) : Tells g a := by
  obtain ⟨K, e⟩ := e
  refine ⟨K + 1, fun k hk => ?_⟩
  obtain ⟨m, rfl⟩ : ∃ m, k = m + 1 := ⟨k - 1, by omega⟩
  rw [h]; exact e m (by omega)
theorem Tells.pos {c : Prop} [Decidable c] {f g : Nat → Option α} (h : c) (e : Tells f a) : Tells (fun k => if c then f k else g k) a := by
  obtain ⟨K, e⟩ := e
  exact ⟨K, fun k hk => by show (if c then f k else g k) = some a; rw [if_pos h]; exact e k hk⟩
theorem Tells.neg {c : Prop} [Decidable c] {f g : Nat → Option α} (h : ¬ c) (e : Tells g a) : Tells (fun k => if c then f k else g k) a := by
  obtain ⟨K, e⟩ := e
  exact ⟨K, fun k hk => by show (if c then f k else g k) = some a; rw [if_neg h]; exact e k hk⟩
theorem Tells.to {g : Nat → Option α} {b : α} (h : Tells g b) (e : b = a) : Tells g a := e ▸ h
theorem Tells.congr {g f : Nat → Option α} (h : ∀ k, g k = f k) (e : Tells f a) : Tells g a := by
  obtain ⟨K, e⟩ := e
  exact ⟨K, fun k hk => by rw [h]; exact e k hk⟩
end

def flat : O → List Int
  | [] => []
  | ⟨c, e⟩ :: r => c :: (((e.length : Int) :: flat e) ++ flat r)
def row (x : O) : List Int := (x.length : Int) :: flat x
theorem flat_nil : flat [] = [] := by unfold flat; rfl
theorem flat_cons (c : Int) (e r : O) : flat (⟨c, e⟩ :: r) = c :: (row e ++ flat r) := by rw [flat]; rfl
theorem row_nil : row [] = [0] := by unfold row; rw [flat_nil]; rfl
theorem flat_length (x : O) : ((flat x).length : Int) = size x - 1 := by
  induction x using ind with
  | h0 => rw [flat_nil, size_nil]; rfl
  | h1 c e r ihe ihr => rw [flat_cons, size_cons]; unfold row; simp only [List.length_cons, List.length_append]; omega
theorem row_length (x : O) : ((row x).length : Int) = size x := by
  have := flat_length x
  unfold row; simp only [List.length_cons]; omega
theorem length_le_size (x : O) : 2 * (x.length : Int) ≤ size x - 1 := by
  induction x with
  | nil => rw [size_nil]; simp
  | cons t r ih => obtain ⟨c, e⟩ := t; have := size_pos e; rw [size_cons]; simp only [List.length_cons]; omega
/-- is an exponent not less than the one before -/
def late (last : Option O) (e : O) : Bool := match last with
  | none => false
  | some f => decide (0 ≤ cmp e f)
/-- as many terms as c, each exponent less than the one before -/
def terms (tk : List Int → Option (O × List Int)) : Nat → Option O → List Int → Option (O × List Int)
  | 0, _, l => some ([], l)
  | _ + 1, _, [] => none
  | c + 1, last, t :: l =>
    if 1 ≤ t ∧ t ≤ 9999 then
      match tk l with
      | none => none
      | some (e, l') => if late last e = true then none else
        match terms tk c (some e) l' with
        | none => none
        | some (r, l'') => some (⟨t, e⟩ :: r, l'')
    else none
/-- an ordinal at the beginning of a row; n: more than the row is long -/
def take : Nat → List Int → Option (O × List Int)
  | 0, _ => none
  | _ + 1, [] => none
  | n + 1, m :: l => if 0 ≤ m ∧ m ≤ 60 then terms (take n) m.toNat none l else none
def Good (tk : List Int → Option (O × List Int)) : Prop := ∀ l x l', tk l = some (x, l') → l = row x ++ l' ∧ NF x ∧ most x ≤ 9999
theorem terms_good {tk : List Int → Option (O × List Int)} (htk : Good tk) : ∀ {c : Nat} {last : Option O} {l l' : List Int} {r : O}, terms tk c last l = some (r, l') →
    l = flat r ++ l' ∧ NF r ∧ most r ≤ 9999 ∧ r.length = c ∧ ∀ f, last = some f → below f r := by
  intro c
  induction c with
  | zero =>
    intro last l l' r h
    unfold terms at h
    injection h with h
    injection h with h1 h2
    subst h1; subst h2
    exact ⟨by rw [flat_nil]; rfl, NF_nil, by rw [most_nil]; omega, rfl, fun _ _ => trivial⟩
  | succ c ih =>
    intro last l l' r h
    cases l with
    | nil => unfold terms at h; cases h
    | cons t l =>
      rw [terms] at h
      split at h
      · next ht =>
        split at h
        · cases h
        · next e l1 he =>
          obtain ⟨a1, a2, a3⟩ := htk _ _ _ he
          split at h
          · cases h
          · next hl =>
            split at h
            · cases h
            · next r' l2 hr =>
              injection h with h
              injection h with h1 h2
              subst h1; subst h2
              obtain ⟨b1, b2, b3, b4, b5⟩ := ih hr
              refine ⟨?_, NF_cons.2 ⟨ht.1, a2, b2, b5 e rfl⟩, ?_, by simp [b4], fun f hf => ?_⟩
              · rw [a1, b1, flat_cons]; simp
              · rw [most_cons]; omega
              · subst hf
                unfold late at hl
                simp only [decide_eq_true_eq] at hl
                have := cmp_range e f
                show cmp e f = -1
                omega
      · cases h
theorem take_good (n : Nat) : Good (take n) := by
  induction n with
  | zero => intro l x l' h; unfold take at h; cases h
  | succ n ih =>
    intro l x l' h
    cases l with
    | nil => unfold take at h; cases h
    | cons m l =>
      rw [take] at h
      split at h
      · next hm =>
        obtain ⟨a1, a2, a3, a4, _⟩ := terms_good ih h
        refine ⟨?_, a2, a3⟩
        rw [a1]
        have : m = (x.length : Int) := by rw [a4]; omega
        rw [this]; rfl
      · cases h
/-- what is left is not longer -/
theorem take_len {n : Nat} {l l' : List Int} {x : O} (h : take n l = some (x, l')) : l'.length < l.length := by
  obtain ⟨a, _, _⟩ := take_good n _ _ _ h
  rw [a]; unfold row; simp; omega
theorem terms_full {n : Nat} (ih : ∀ x l, NF x → most x ≤ 9999 → (size x ≤ 60) → size x < n → take n (row x ++ l) = some (x, l)) :
    ∀ (r : O) (last : Option O) (l : List Int), NF r → most r ≤ 9999 → size r ≤ 60 → size r ≤ n → (∀ f, last = some f → below f r) → terms (take n) r.length last (flat r ++ l) = some (r, l) := by
  intro r
  induction r with
  | nil => intro last l _ _ _ _ _; rw [flat_nil]; unfold terms; rfl
  | cons t r ihr =>
    intro last l h1 h2 h3 h4 h5
    obtain ⟨c, e⟩ := t
    obtain ⟨a1, a2, a3, a4⟩ := NF_cons.1 h1
    rw [most_cons] at h2
    rw [size_cons] at h3 h4
    have := size_pos r
    have := size_pos e
    rw [flat_cons]
    simp only [List.length_cons, List.cons_append, List.append_assoc]
    rw [terms, if_pos ⟨a1, by omega⟩, ih e _ a2 (by omega) (by omega) (by omega)]
    simp only
    have hl : ¬ late last e = true := by
      unfold late
      cases last with
      | none => simp
      | some f =>
        have := h5 f rfl
        simp only [decide_eq_true_eq]
        rw [below_cons] at this
        rw [this]; omega
    rw [if_neg hl, ihr (some e) l a3 (by omega) (by omega) (by omega) (fun f hf => by injection hf with hf; subst hf; exact a4)]
theorem take_full : ∀ (n : Nat) (x : O) (l : List Int), NF x → most x ≤ 9999 → size x ≤ 60 → size x < n → take n (row x ++ l) = some (x, l) := by
  intro n
  induction n with
  | zero => intro x l _ _ _ h; have := size_pos x; omega
  | succ n ih =>
    intro x l h1 h2 h3 h4
    have := length_le_size x
    unfold row
    rw [List.cons_append, take, if_pos ⟨by omega, by omega⟩, Int.toNat_natCast]
    exact terms_full (fun x l a b c d => ih x l a b c d) x none l h1 h2 h3 (by omega) (fun f hf => by cases hf)
def Vd (x : O) : Prop := NF x ∧ most x ≤ 9999 ∧ size x ≤ 60
theorem Vd.size {x : O} (h : Vd x) : size x ≤ 60 := h.2.2
def ordOf (l : List Int) : Option O := if 1 ≤ l.length ∧ l.length ≤ 60 then (match take 61 l with | some (x, []) => some x | _ => none) else none
theorem ordOf_some {l : List Int} {x : O} (h : ordOf l = some x) : l = row x ∧ Vd x := by
  unfold ordOf at h
  split at h
  · next hl =>
    split at h
    · next y he =>
      injection h with h
      subst h
      obtain ⟨a1, a2, a3⟩ := take_good _ _ _ _ he
      rw [List.append_nil] at a1
      have := row_length y
      rw [← a1] at this
      exact ⟨a1, a2, a3, by omega⟩
    · cases h
  · cases h
theorem ordOf_row {x : O} (h : Vd x) : ordOf (row x) = some x := by
  obtain ⟨h1, h2, h3⟩ := h
  have h4 := row_length x
  have h5 := size_pos x
  have h6 := take_full 61 x [] h1 h2 h3 (by omega)
  rw [List.append_nil] at h6
  unfold ordOf
  rw [if_pos ⟨by omega, by omega⟩, h6]
end OM

namespace Go.Proofs.Ytpgkpahhohfmhaa.P
open OM Go.RowKit Go.Proofs.YtpgkpahhohfmhaaW.PrintWords Go.Proofs.YtpgkpahhohfmhaaW.PrintLast Go.Proofs.YtpgkpahhohfmhaaW.PrintMore
set_option linter.unusedVariables false

theorem wrap_id {i : Int} (h0 : -9000000000000000000 ≤ i) (h : i ≤ 9000000000000000000) : wrap64 i = i := by unfold wrap64; omega
theorem getD_mid {α : Type} (p s : List α) (c d : α) {i : Int} (hi : i = (p.length : Int)) : (p ++ c :: s).getD i.toNat d = c := by subst hi; simp
theorem rd_mid (p s : List Int) (c : Int) {i : Int} (hi : i = (p.length : Int)) : rd (p ++ c :: s) i = c := getD_mid p s c 0 hi
theorem rdT_mid (p s : O) (c : Tm) {i : Int} (hi : i = (p.length : Int)) : rd_T69 (p ++ c :: s) i = c := getD_mid p s c _ hi
theorem rdL_mid (p s : List (List Int)) (c : List Int) {i : Int} (hi : i = (p.length : Int)) : rd_L3 (p ++ c :: s) i = c := getD_mid p s c _ hi
theorem snoc {α : Type} (p s : List α) (c : α) : p ++ c :: s = (p ++ [c]) ++ s := by simp
theorem size_append (p r : O) : size (p ++ r) = size p + size r - 1 := by
  induction p with
  | nil => rw [size_nil]; show size r = _; omega
  | cons t p ih => obtain ⟨c, e⟩ := t; show size (⟨c, e⟩ :: (p ++ r)) = _; rw [size_cons, size_cons, ih]; omega

theorem cmpInt (a b : Int) : cmp_Compare_int.f a b = some (if a < b then -1 else if b < a then 1 else 0) := by
  unfold cmp_Compare_int.f cmp_isNaN_int.f
  simp only [Option.bind_some, bne_self_eq_false, Bool.false_eq_true, if_false]
  split
  · rfl
  · split <;> rfl
theorem compare_f (k : Nat) (x y : O) : impl_compare.f (k + 1) x y = impl_compare.l0 k x y 0 := by rw [impl_compare.f]
theorem compare_l : ∀ (r p q s : O), p.length = q.length → size (p ++ r) ≤ 10000000000 → size (q ++ s) ≤ 10000000000 → Tells (fun k => impl_compare.l0 k (p ++ r) (q ++ s) (p.length : Int)) (cmp r s) := by
  intro r
  induction r using ind with
  | h0 =>
    intro p q s hl h1 h2
    have hs := length_le_size (p ++ [])
    have hq := length_le_size (q ++ s)
    refine Tells.step (fun k => by rw [impl_compare.l0]) ?_
    refine Tells.neg (by simp) ?_
    refine Tells.step (fun k => by rw [impl_compare.j1]) ?_
    refine Tells.neg (by simp) ?_
    refine Tells.bind (Tells.const (cmpInt _ _)) ?_
    refine Tells.to (Tells.now _) ?_
    simp only [List.length_append, List.length_nil, Nat.add_zero]
    cases s with
    | nil => rw [cmp_nn, if_neg (by simp; omega), if_neg (by simp; omega)]
    | cons t s => rw [cmp_nc, if_pos (by simp; omega)]
  | h1 c e r ihe ihr =>
    intro p q s hl h1 h2
    have hp := length_le_size p
    have hs := length_le_size (p ++ (⟨c, e⟩ :: r))
    have hq := length_le_size (q ++ s)
    refine Tells.step (fun k => by rw [impl_compare.l0]) ?_
    refine Tells.pos (by simp; omega) ?_
    refine Tells.step (fun k => by rw [impl_compare.j1]) ?_
    cases s with
    | nil =>
      refine Tells.neg (by simp; omega) ?_
      refine Tells.bind (Tells.const (cmpInt _ _)) ?_
      refine Tells.to (Tells.now _) ?_
      rw [cmp_cn, if_neg (by simp; omega), if_pos (by simp; omega)]
    | cons t s =>
      obtain ⟨d, f⟩ := t
      refine Tells.pos (by simp; omega) ?_
      refine Tells.pos (by omega) ?_
      refine Tells.pos (by simp; omega) ?_
      refine Tells.pos (by simp; omega) ?_
      rw [rdT_mid p r ⟨c, e⟩ rfl, rdT_mid q s ⟨d, f⟩ (by rw [hl])]
      have z1 := h1
      have z2 := h2
      rw [size_append, size_cons] at z1 z2
      have := size_pos r
      have := size_pos s
      have := size_pos p
      have := size_pos q
      have := size_pos e
      have := size_pos f
      refine Tells.bind (Tells.step (fun k => compare_f k e f) (ihe [] [] f rfl (by show size e ≤ _; omega) (by show size f ≤ _; omega))) ?_
      show Tells (fun k => if cmp e f = 0 then _ else _) _
      rw [cmp_cc]
      by_cases z : cmp e f = 0
      · refine Tells.pos z ?_
        rw [if_pos z]
        refine Tells.bind (Tells.const (cmpInt _ _)) ?_
        by_cases a : c < d
        · rw [if_pos a, if_pos a]
          exact Tells.neg (by omega) (Tells.now _)
        · by_cases b : d < c
          · rw [if_neg a, if_pos b, if_neg a, if_pos b]
            exact Tells.neg (by omega) (Tells.now _)
          · rw [if_neg a, if_neg b, if_neg a, if_neg b]
            refine Tells.pos rfl ?_
            rw [snoc p, snoc q, wrap_id (by omega) (by omega)]
            have := ihr (p ++ [⟨c, e⟩]) (q ++ [⟨d, f⟩]) s (by simp [hl]) (by rw [← snoc]; exact h1) (by rw [← snoc]; exact h2)
            rw [show ((p ++ [(⟨c, e⟩ : Tm)]).length : Int) = (p.length : Int) + 1 by simp] at this
            exact this
      · refine Tells.neg z ?_
        rw [if_neg z]
        exact Tells.now _
theorem compare_ev {x y : O} (hx : size x ≤ 10000000000) (hy : size y ≤ 10000000000) : Tells (fun k => impl_compare.f k x y) (cmp x y) :=
  Tells.step (fun k => compare_f k x y) (compare_l x [] [] y rfl hx hy)

theorem rowOf_f (k : Nat) (x : O) : impl_rowOf.f (k + 1) x = impl_rowOf.l0 k [(x.length : Int)] x (x.length : Int) 0 := by rw [impl_rowOf.f]
theorem rowOf_l : ∀ (r p : O) (acc : List Int), size (p ++ r) ≤ 10000000000 → (acc.length : Int) + size r ≤ 20000000000 → Tells (fun k => impl_rowOf.l0 k acc (p ++ r) ((p ++ r).length : Int) (p.length : Int)) (acc ++ flat r) := by
  intro r
  induction r using ind with
  | h0 =>
    intro p acc h1 h2
    refine Tells.step (fun k => by rw [impl_rowOf.l0]) ?_
    refine Tells.neg (by simp) ?_
    refine Tells.to (Tells.now _) ?_
    rw [flat_nil, List.append_nil]
  | h1 c e r ihe ihr =>
    intro p acc h1 h2
    have hp := length_le_size p
    have z1 := h1
    rw [size_append, size_cons] at z1
    rw [size_cons] at h2
    have := size_pos r
    have := size_pos p
    have := size_pos e
    refine Tells.step (fun k => by rw [impl_rowOf.l0]) ?_
    refine Tells.pos (by simp; omega) ?_
    refine Tells.pos (by omega) ?_
    refine Tells.pos (by simp; omega) ?_
    refine Tells.pos (by omega) ?_
    refine Tells.sbind ?_
    rw [rdT_mid p r ⟨c, e⟩ rfl]
    refine Tells.bind (Tells.step (fun k => rowOf_f k e) (ihe [] [(e.length : Int)] (by show size e ≤ _; omega) (by simp; omega))) ?_
    have hl := row_length e
    have he : ([(e.length : Int)] ++ flat e) = row e := rfl
    rw [he]
    refine Tells.pos (by simp only [List.length_append, List.length_cons, List.length_nil]; omega) ?_
    rw [wrap_id (by omega) (by omega), snoc p]
    have := ihr (p ++ [⟨c, e⟩]) (acc ++ [c] ++ row e) (by rw [← snoc]; exact h1) (by simp only [List.length_append, List.length_cons, List.length_nil]; omega)
    rw [show ((p ++ [(⟨c, e⟩ : Tm)]).length : Int) = (p.length : Int) + 1 by simp] at this
    refine Tells.to this ?_
    rw [flat_cons]; simp
theorem rowOf_ev {x : O} (hx : size x ≤ 10000000000) : Tells (fun k => impl_rowOf.f k x) (row x) :=
  Tells.step (fun k => rowOf_f k x) (rowOf_l x [] [(x.length : Int)] hx (by simp; omega))
theorem sizeOf_f (k : Nat) (x : O) : impl_sizeOf.f (k + 1) x = impl_sizeOf.l0 k 1 x (x.length : Int) 0 := by rw [impl_sizeOf.f]
theorem sizeOf_l : ∀ (r p : O) (n : Int), size (p ++ r) ≤ 10000000000 → 0 ≤ n → n + size r ≤ 20000000000 → Tells (fun k => impl_sizeOf.l0 k n (p ++ r) ((p ++ r).length : Int) (p.length : Int)) (n + size r - 1) := by
  intro r
  induction r using ind with
  | h0 =>
    intro p n h1 h2 h3
    refine Tells.step (fun k => by rw [impl_sizeOf.l0]) ?_
    refine Tells.neg (by simp) ?_
    refine Tells.to (Tells.now _) ?_
    rw [size_nil]; omega
  | h1 c e r ihe ihr =>
    intro p n h1 h2 h3
    have hp := length_le_size p
    have z1 := h1
    rw [size_append, size_cons] at z1
    rw [size_cons] at h3 ⊢
    have := size_pos r
    have := size_pos p
    have := size_pos e
    refine Tells.step (fun k => by rw [impl_sizeOf.l0]) ?_
    refine Tells.pos (by simp; omega) ?_
    refine Tells.pos (by omega) ?_
    refine Tells.pos (by simp; omega) ?_
    rw [rdT_mid p r ⟨c, e⟩ rfl]
    refine Tells.bind (Tells.step (fun k => sizeOf_f k e) (ihe [] 1 (by show size e ≤ _; omega) (by omega) (by omega))) ?_
    rw [wrap_id (i := (p.length : Int) + 1) (by omega) (by omega), wrap_id (i := 1 + (1 + size e - 1)) (by omega) (by omega), wrap_id (i := n + (1 + (1 + size e - 1))) (by omega) (by omega), snoc p]
    have := ihr (p ++ [⟨c, e⟩]) (n + (1 + (1 + size e - 1))) (by rw [← snoc]; exact h1) (by omega) (by omega)
    rw [show ((p ++ [(⟨c, e⟩ : Tm)]).length : Int) = (p.length : Int) + 1 by simp] at this
    exact Tells.to this (by omega)
theorem sizeOf_ev {x : O} (hx : size x ≤ 10000000000) : Tells (fun k => impl_sizeOf.f k x) (size x) :=
  Tells.to (Tells.step (fun k => sizeOf_f k x) (sizeOf_l x [] 1 hx (by omega) (by omega))) (by omega)
theorem mx_max (a b : Int) : mx a b = max a b := by unfold mx; omega
theorem most_f (k : Nat) (x : O) : impl_most.f (k + 1) x = impl_most.l0 k 0 x (x.length : Int) 0 := by rw [impl_most.f]
theorem most_l : ∀ (r p : O) (n : Int), size (p ++ r) ≤ 10000000000 → 0 ≤ n → Tells (fun k => impl_most.l0 k n (p ++ r) ((p ++ r).length : Int) (p.length : Int)) (max n (most r)) := by
  intro r
  induction r using ind with
  | h0 =>
    intro p n h1 h2
    refine Tells.step (fun k => by rw [impl_most.l0]) ?_
    refine Tells.neg (by simp) ?_
    refine Tells.to (Tells.now _) ?_
    rw [most_nil]; omega
  | h1 c e r ihe ihr =>
    intro p n h1 h2
    have hp := length_le_size p
    have z1 := h1
    rw [size_append, size_cons] at z1
    have := size_pos r
    have := size_pos p
    have := size_pos e
    have := most_pos e
    refine Tells.step (fun k => by rw [impl_most.l0]) ?_
    refine Tells.pos (by simp; omega) ?_
    refine Tells.pos (by omega) ?_
    refine Tells.pos (by simp; omega) ?_
    rw [rdT_mid p r ⟨c, e⟩ rfl]
    refine Tells.bind (Tells.step (fun k => most_f k e) (ihe [] 0 (by show size e ≤ _; omega) (by omega))) ?_
    rw [wrap_id (i := (p.length : Int) + 1) (by omega) (by omega), mx_max, mx_max, snoc p]
    have := ihr (p ++ [⟨c, e⟩]) (max (max n c) (max 0 (most e))) (by rw [← snoc]; exact h1) (by omega)
    rw [show ((p ++ [(⟨c, e⟩ : Tm)]).length : Int) = (p.length : Int) + 1 by simp] at this
    refine Tells.to this ?_
    rw [most_cons]; omega
theorem most_ev {x : O} (hx : size x ≤ 10000000000) : Tells (fun k => impl_most.f k x) (most x) :=
  Tells.to (Tells.step (fun k => most_f k x) (most_l x [] 0 hx (by omega))) (by have := most_pos x; omega)
/-- what told tells -/
def toldv (x : O) : List Int × Bool := if size x ≤ 60 ∧ most x ≤ 9999 then (row x, true) else ([], false)
theorem told_ev {x : O} (hx : size x ≤ 10000000000) : Tells (fun k => impl_told.f k x) (toldv x) := by
  unfold toldv
  refine Tells.bind (sizeOf_ev hx) ?_
  by_cases h : size x > 60
  · refine Tells.pos h ?_
    refine Tells.step (fun k => by rw [impl_told.j0]) ?_
    refine Tells.pos rfl ?_
    rw [if_neg (by omega)]; exact Tells.now _
  · refine Tells.neg h ?_
    refine Tells.bind (most_ev hx) ?_
    refine Tells.step (fun k => by rw [impl_told.j0]) ?_
    by_cases g : most x > 9999
    · refine Tells.pos (decide_eq_true g) ?_
      rw [if_neg (by omega)]; exact Tells.now _
    · refine Tells.neg (by simp; omega) ?_
      rw [if_pos (by omega)]
      refine Tells.bind (rowOf_ev hx) ?_
      exact Tells.now _

theorem rd_zero (a : Int) (l : List Int) : rd (a :: l) 0 = a := rfl
theorem takeOrd_l {n : Nat} (ih : ∀ l : List Int, l.length < n → (l.length : Int) ≤ 100000000 → Tells (fun k => impl_takeOrd.f k l) (match take n l with | none => ([], [], false) | some (x, l') => (x, l', true))) :
    ∀ (c : Nat) (acc : O) (l : List Int) (last : Option O) (m : Int), l.length ≤ n → (l.length : Int) ≤ 100000000 → m = (acc.length : Int) + c → 0 ≤ m → m ≤ 60 → size acc + (l.length : Int) ≤ 200000000 →
      (∀ t a, acc = a ++ [t] → last = some t.f1) → (acc = [] → last = none) →
      Tells (fun k => impl_takeOrd.l0 k l acc m (acc.length : Int)) (match terms (take n) c last l with | none => ([], [], false) | some (x, l') => (acc ++ x, l', true)) := by
  intro c
  induction c with
  | zero =>
    intro acc l last m h1 h1' h2 h3 h4 hz h5 h6
    refine Tells.step (fun k => by rw [impl_takeOrd.l0]) ?_
    refine Tells.neg (by omega) ?_
    refine Tells.to (Tells.now _) ?_
    unfold terms; simp
  | succ c ihc =>
    intro acc l last m h1 h1' h2 h3 h4 hz h5 h6
    have hacc := size_pos acc
    refine Tells.step (fun k => by rw [impl_takeOrd.l0]) ?_
    refine Tells.pos (by omega) ?_
    have bad : Tells (fun k => impl_takeOrd.j2 k l acc (acc.length : Int) m (acc.length : Int) true) (([] : O), ([] : List Int), false) := by
      refine Tells.step (fun k => by rw [impl_takeOrd.j2]) ?_
      exact Tells.pos rfl (Tells.now _)
    cases l with
    | nil =>
      refine Tells.pos rfl ?_
      refine Tells.to bad ?_
      unfold terms; rfl
    | cons t l =>
      refine Tells.neg (by simp <;> omega) ?_
      refine Tells.pos (by simp <;> omega) ?_
      rw [rd_zero, terms]
      by_cases ht : t < 1
      · refine Tells.pos ht ?_
        refine Tells.to bad ?_
        rw [if_neg (by omega)]
      · refine Tells.neg ht ?_
        by_cases ht' : t > 9999
        · rw [decide_eq_true ht']
          refine Tells.to bad ?_
          rw [if_neg (by omega)]
        · rw [decide_eq_false ht', if_pos (by omega)]
          refine Tells.step (fun k => by rw [impl_takeOrd.j2]) ?_
          refine Tells.neg (by simp) ?_
          refine Tells.pos (by simp; omega) ?_
          simp only [List.length_cons] at h1 h1' hz
          refine Tells.bind (ih l (by omega) (by omega)) ?_
          cases hk : take n l with
          | none => exact Tells.neg (by simp) (Tells.now _)
          | some q =>
            obtain ⟨e, l1⟩ := q
            simp only
            refine Tells.pos trivial ?_
            have hlen := take_len hk
            obtain ⟨a1, a2, a3⟩ := take_good _ _ _ _ hk
            have hse : size e + (l1.length : Int) = (l.length : Int) := by
              have := row_length e
              rw [a1, List.length_append]; omega
            have go : ∀ last', last' = some e → Tells (fun k => if 0 < (((t :: l).length : Nat) : Int) then (if acc.length < 4398046511104 then (impl_takeOrd.l0 k l1 (acc ++ [(⟨rd (t :: l) 0, e⟩ : Tm)]) m (wrap64 ((acc.length : Int) + 1))) else none) else none)
                (match (match terms (take n) c last' l1 with | none => none | some (r, l'') => some ((⟨t, e⟩ : Tm) :: r, l'')) with | none => ([], [], false) | some (x, l') => (acc ++ x, l', true)) := by
              intro last' hl'
              refine Tells.pos (by simp <;> omega) ?_
              refine Tells.pos (by have := length_le_size acc; omega) ?_
              rw [rd_zero, wrap_id (by omega) (by omega)]
              have := ihc (acc ++ [⟨t, e⟩]) l1 last' m (by omega) (by omega) (by simp; omega) h3 h4 (by rw [size_append, size_cons, size_nil]; omega)
                (fun t' a ha => by
                  have := List.append_inj_right' ha rfl
                  injection this with this
                  rw [hl', ← this])
                (fun ha => by simp at ha)
              rw [show ((acc ++ [(⟨t, e⟩ : Tm)]).length : Int) = (acc.length : Int) + 1 by simp] at this
              refine Tells.to this ?_
              cases terms (take n) c last' l1 with
              | none => rfl
              | some q => obtain ⟨r, l2⟩ := q; simp
            rcases List.eq_nil_or_concat acc with hacc | ⟨a, t', hacc⟩
            · have hl := h6 hacc
              subst hl
              refine Tells.neg (by rw [hacc]; simp) ?_
              have : late none e = false := rfl
              rw [if_neg (by rw [this]; simp)]
              exact go (some e) rfl
            · rw [List.concat_eq_append] at hacc
              have hl := h5 t' a hacc
              have hp : (acc.length : Int) = (a.length : Int) + 1 := by rw [hacc]; simp
              refine Tells.pos (by omega) ?_
              rw [wrap_id (by omega) (by omega)]
              refine Tells.pos (by omega) ?_
              refine Tells.pos (by omega) ?_
              have hrd : rd_T69 acc ((acc.length : Int) - 1) = t' := by
                rw [hacc]; exact rdT_mid a [] t' (by simp)
              rw [hrd]
              have hst : size t'.f1 ≤ size acc := by
                obtain ⟨ct, et⟩ := t'
                have := size_pos a
                have := size_pos et
                rw [hacc, size_append, size_cons, size_nil]; show size et ≤ _; omega
              refine Tells.bind (compare_ev (by omega) (by omega)) ?_
              subst hl
              by_cases hc : cmp e t'.f1 ≥ 0
              · refine Tells.pos hc ?_
                have : late (some t'.f1) e = true := by unfold late; simp only [decide_eq_true_eq]; exact hc
                rw [if_pos this]
                exact Tells.now _
              · refine Tells.neg hc ?_
                have : ¬ late (some t'.f1) e = true := by unfold late; simp only [decide_eq_true_eq]; exact hc
                rw [if_neg this]
                exact go (some e) rfl
theorem takeOrd_ev : ∀ (n : Nat) (l : List Int), l.length < n → (l.length : Int) ≤ 100000000 → Tells (fun k => impl_takeOrd.f k l) (match take n l with | none => ([], [], false) | some (x, l') => (x, l', true)) := by
  intro n
  induction n with
  | zero => intro l h; omega
  | succ n ih =>
    intro l h h'
    refine Tells.step (fun k => by rw [impl_takeOrd.f]) ?_
    cases l with
    | nil => refine Tells.pos rfl ?_; unfold take; exact Tells.now _
    | cons m l =>
      simp only [List.length_cons] at h h'
      refine Tells.neg (by simp <;> omega) ?_
      refine Tells.pos (by simp <;> omega) ?_
      refine Tells.pos (by simp <;> omega) ?_
      refine Tells.sbind ?_
      refine Tells.sbind ?_
      rw [rd_zero, take]
      by_cases h1 : m < 0
      · refine Tells.pos h1 ?_
        refine Tells.step (fun k => by rw [impl_takeOrd.j0]) ?_
        refine Tells.pos rfl ?_
        rw [if_neg (by omega)]; exact Tells.now _
      · refine Tells.neg h1 ?_
        refine Tells.step (fun k => by rw [impl_takeOrd.j0]) ?_
        by_cases h2 : m > 60
        · refine Tells.pos (decide_eq_true h2) ?_
          rw [if_neg (by omega)]; exact Tells.now _
        · refine Tells.neg (by simp; omega) ?_
          rw [if_pos (by omega)]
          have := takeOrd_l ih m.toNat [] l none m (by omega) (by omega) (by simp; omega) (by omega) (by omega) (by rw [size_nil]; omega) (fun t a ha => by simp at ha) (fun _ => rfl)
          exact this
/-- what ordOf tells -/
def ordv (l : List Int) : O × Bool := match ordOf l with
  | some x => (x, true)
  | none => ((if 1 ≤ l.length ∧ l.length ≤ 60 then (match take 61 l with | some (x, _) => x | none => []) else []), false)
theorem ordOf_ev {l : List Int} : Tells (fun k => impl_ordOf.f k l) (ordv l) := by
  unfold ordv ordOf
  by_cases h1 : (l.length : Int) < 1
  · refine Tells.pos h1 ?_
    rw [if_neg (by omega), if_neg (by omega)]; exact Tells.now _
  · refine Tells.neg h1 ?_
    by_cases h2 : (l.length : Int) > 60
    · refine Tells.pos h2 ?_
      rw [if_neg (by omega), if_neg (by omega)]; exact Tells.now _
    · refine Tells.neg h2 ?_
      refine Tells.bind (takeOrd_ev 61 l (by omega) (by omega)) ?_
      have hc : 1 ≤ l.length ∧ l.length ≤ 60 := by omega
      rw [if_pos hc, if_pos hc]
      cases take 61 l with
      | none => exact Tells.neg (by simp) (Tells.now _)
      | some q =>
        obtain ⟨x, l'⟩ := q
        refine Tells.pos rfl ?_
        cases l' with
        | nil => exact Tells.now _
        | cons a l' => refine Tells.to (Tells.now _) ?_; simp; omega
end Go.Proofs.Ytpgkpahhohfmhaa.P

namespace Go.Proofs.Ytpgkpahhohfmhaa.P
open OM Go.RowKit Go.Proofs.YtpgkpahhohfmhaaW.PrintWords Go.Proofs.YtpgkpahhohfmhaaW.PrintLast Go.Proofs.YtpgkpahhohfmhaaW.PrintMore
set_option linter.unusedVariables false

theorem l1In_eq (a lo hi : Int) : spec_l1In.f a lo hi = some (decide (lo ≤ a ∧ a ≤ hi)) := by
  unfold spec_l1In.f
  split
  · next h => congr 1; by_cases g : a ≤ hi <;> simp [h, g] <;> omega
  · next h => congr 1; simp; omega
def cs (x : O) : List Int := x.map (·.f0)
def es (x : O) : List (List Int) := x.map (fun t => row t.f1)
theorem cs_length (x : O) : (cs x).length = x.length := by simp [cs]
theorem es_length (x : O) : (es x).length = x.length := by simp [es]
theorem cs_cons (c : Int) (e r : O) : cs (⟨c, e⟩ :: r) = c :: cs r := rfl
theorem es_cons (c : Int) (e r : O) : es (⟨c, e⟩ :: r) = row e :: es r := rfl
theorem cs_append (x y : O) : cs (x ++ y) = cs x ++ cs y := by simp [cs]
theorem es_append (x y : O) : es (x ++ y) = es x ++ es y := by simp [es]
theorem make_l : ∀ (r : O) (A : List Int) (B : List (List Int)) (acc : List Int), A.length = B.length → (A.length : Int) + r.length ≤ 10000000000 → (acc.length : Int) + (flat r).length ≤ 20000000000 →
    Tells (fun k => spec_l1Make.l0 k (A ++ cs r) (B ++ es r) acc (A.length : Int)) (acc ++ flat r) := by
  intro r
  induction r with
  | nil =>
    intro A B acc h1 h2 h3
    refine Tells.step (fun k => by rw [spec_l1Make.l0]) ?_
    refine Tells.neg (by simp [cs]) ?_
    refine Tells.to (Tells.now _) ?_
    rw [flat_nil, List.append_nil]
  | cons t r ih =>
    intro A B acc h1 h2 h3
    obtain ⟨c, e⟩ := t
    rw [flat_cons] at h3
    simp only [List.length_append, List.length_cons] at h2 h3
    rw [cs_cons, es_cons]
    refine Tells.step (fun k => by rw [spec_l1Make.l0]) ?_
    refine Tells.pos (by simp; omega) ?_
    refine Tells.pos (by omega) ?_
    refine Tells.pos (by omega) ?_
    refine Tells.sbind ?_
    refine Tells.pos (by simp; omega) ?_
    rw [rd_mid A _ c rfl, rdL_mid B _ (row e) (by rw [h1])]
    refine Tells.pos (by simp; omega) ?_
    rw [wrap_id (by omega) (by omega), snoc A, snoc B]
    have := ih (A ++ [c]) (B ++ [row e]) (acc ++ [c] ++ row e) (by simp [h1]) (by simp; omega) (by simp; omega)
    rw [show ((A ++ [c]).length : Int) = (A.length : Int) + 1 by simp] at this
    refine Tells.to this ?_
    rw [flat_cons]; simp
theorem make_ev {x : O} (h : size x ≤ 10000000000) : Tells (fun k => spec_l1Make.f k (cs x) (es x)) (row x) := by
  have hl := flat_length x
  have hz := length_le_size x
  have := make_l x [] [] [((cs x).length : Int)] rfl (by simp; omega) (by simp; omega)
  refine Tells.to this ?_
  rw [cs_length]; rfl
end Go.Proofs.Ytpgkpahhohfmhaa.P

namespace Go.Proofs.Ytpgkpahhohfmhaa.P
open OM Go.RowKit Go.Proofs.YtpgkpahhohfmhaaW.PrintWords Go.Proofs.YtpgkpahhohfmhaaW.PrintLast Go.Proofs.YtpgkpahhohfmhaaW.PrintMore
set_option linter.unusedVariables false
def num (c : Int) : O := if c = 0 then [] else [⟨c, []⟩]
theorem row_num_zero : row (num 0) = [0] := by unfold num; rw [if_pos rfl, row_nil]
theorem row_num {c : Int} (h : c ≠ 0) : row (num c) = [1, c, 0] := by unfold num; rw [if_neg h]; unfold row; rw [flat_cons, row_nil, flat_nil]; rfl
theorem size_num (c : Int) : size (num c) ≤ 3 := by unfold num; split <;> simp only [size_cons, size_nil] <;> omega
theorem number_eq (c : Int) : impl_number.f c = some (num c) := by unfold impl_number.f num; split <;> rfl
def ofv (a : Int) : List Int := if 0 ≤ a ∧ a ≤ 9999 then row (num a) else []
theorem implOrdOf_ev {a : Int} : Tells (fun k => impl_OrdOf.f k a) (ofv a) := by
  have bad : ¬ (0 ≤ a ∧ a ≤ 9999) → Tells (fun k => impl_OrdOf.j0 k a true) (ofv a) := by
    intro h
    refine Tells.step (fun k => by rw [impl_OrdOf.j0]) ?_
    unfold ofv; rw [if_neg h]
    exact Tells.pos rfl (Tells.now _)
  by_cases h1 : a < 0
  · exact Tells.pos h1 (bad (by omega))
  · refine Tells.neg h1 ?_
    by_cases h2 : a > 9999
    · rw [decide_eq_true h2]; exact bad (by omega)
    · rw [decide_eq_false h2]
      refine Tells.step (fun k => by rw [impl_OrdOf.j0]) ?_
      refine Tells.neg (by simp) ?_
      refine Tells.bind (Tells.const (number_eq a)) ?_
      have := size_num a
      unfold ofv; rw [if_pos (by omega)]
      exact Tells.bind (rowOf_ev (by omega)) (Tells.now _)
end Go.Proofs.Ytpgkpahhohfmhaa.P

namespace Go.Proofs.Ytpgkpahhohfmhaa.P
open OM Go.RowKit Go.Proofs.YtpgkpahhohfmhaaW.PrintWords Go.Proofs.YtpgkpahhohfmhaaW.PrintLast Go.Proofs.YtpgkpahhohfmhaaW.PrintMore
set_option linter.unusedVariables false

theorem sameInts_l : ∀ (a b p q : List Int), p.length = q.length → a.length = b.length → ((p ++ a).length : Int) ≤ 4000000000000000000 → Tells (fun k => laws_sameInts.l0 k (p ++ a) (q ++ b) (p.length : Int)) (decide (a = b)) := by
  intro a
  induction a with
  | nil =>
    intro b p q h1 h2 h3
    cases b with
    | cons _ _ => simp at h2
    | nil =>
      refine Tells.step (fun k => by rw [laws_sameInts.l0]) ?_
      exact Tells.neg (by simp) (Tells.now _)
  | cons x a ih =>
    intro b p q h1 h2 h3
    cases b with
    | nil => simp at h2
    | cons y b =>
      have h3' := h3
      simp only [List.length_append, List.length_cons] at h3'
      refine Tells.step (fun k => by rw [laws_sameInts.l0]) ?_
      refine Tells.pos (by simp; omega) ?_
      refine Tells.pos (by omega) ?_
      refine Tells.pos (by simp; omega) ?_
      rw [rd_mid p a x rfl, rd_mid q b y (by rw [h1])]
      by_cases h : x = y
      · refine Tells.pos h ?_
        rw [wrap_id (by omega) (by omega), snoc p, snoc q]
        have := ih b (p ++ [x]) (q ++ [y]) (by simp [h1]) (by simpa using h2) (by rw [← snoc]; exact h3)
        rw [show ((p ++ [x]).length : Int) = (p.length : Int) + 1 by simp] at this
        refine Tells.to this ?_
        simp [h]
      · refine Tells.neg h ?_
        refine Tells.to (Tells.now _) ?_
        simp [h]
theorem sameInts_ev {a b : List Int} (h : (a.length : Int) ≤ 4000000000000000000) : Tells (fun k => laws_sameInts.f k a b) (decide (a = b)) := by
  by_cases hl : (a.length : Int) = (b.length : Int)
  · exact Tells.pos hl (sameInts_l a b [] [] rfl (by omega) (by simpa using h))
  · refine Tells.neg hl ?_
    refine Tells.to (Tells.now _) ?_
    symm
    rw [decide_eq_false_iff_not]
    intro h; rw [h] at hl; exact hl rfl
theorem alive_ev : Tells (fun k => laws_alive.f k) true := by
  have h0 : ofv 0 = [0] := by unfold ofv; rw [if_pos (by omega), row_num_zero]
  have h7 : ofv 7 = [1, 7, 0] := by unfold ofv; rw [if_pos (by omega), row_num (by omega)]
  refine Tells.bind (implOrdOf_ev (a := 0)) ?_
  rw [h0]
  refine Tells.pos rfl ?_
  refine Tells.bind (implOrdOf_ev (a := 7)) ?_
  rw [h7]
  exact Tells.now _
end Go.Proofs.Ytpgkpahhohfmhaa.P

namespace Go.Proofs.Ytpgkpahhohfmhaa.P
open OM Go.RowKit Go.Proofs.YtpgkpahhohfmhaaW.PrintWords Go.Proofs.YtpgkpahhohfmhaaW.PrintLast Go.Proofs.YtpgkpahhohfmhaaW.PrintMore
set_option linter.unusedVariables false

theorem ordv_some {l : List Int} {x : O} (h : ordOf l = some x) : ordv l = (x, true) := by unfold ordv; rw [h]
theorem ordv_none {l : List Int} (h : ordOf l = none) : (ordv l).2 = false := by unfold ordv; rw [h]
end Go.Proofs.Ytpgkpahhohfmhaa.P

namespace Go.Proofs.Ytpgkpahhohfmhaa.P
open OM Go.RowKit Go.Proofs.YtpgkpahhohfmhaaW.PrintWords Go.Proofs.YtpgkpahhohfmhaaW.PrintLast Go.Proofs.YtpgkpahhohfmhaaW.PrintMore
set_option linter.unusedVariables false

theorem implValid_ev {l : List Int} : Tells (fun k => impl_OrdValid.f k l) (ordOf l).isSome := by
  refine Tells.bind ordOf_ev ?_
  refine Tells.to (Tells.now _) ?_
  unfold ordv
  cases ordOf l <;> rfl

def compv (a b : List Int) : Int := match ordOf a, ordOf b with
  | some x, some y => cmp x y
  | _, _ => -2
theorem implOrdCompare_ev {a b : List Int} : Tells (fun k => impl_OrdCompare.f k a b) (compv a b) := by
  refine Tells.bind ordOf_ev ?_
  refine Tells.bind ordOf_ev ?_
  unfold compv
  cases h : ordOf a with
  | none => exact Tells.neg (by rw [ordv_none h]; simp) (Tells.now _)
  | some x =>
    rw [ordv_some h]
    refine Tells.pos rfl ?_
    cases g : ordOf b with
    | none => exact Tells.neg (by rw [ordv_none g]; simp) (Tells.now _)
    | some y =>
      rw [ordv_some g]
      refine Tells.pos rfl ?_
      have := (ordOf_some h).2.size
      have := (ordOf_some g).2.size
      exact Tells.bind (compare_ev (by show size x ≤ _; omega) (by show size y ≤ _; omega)) (Tells.now _)

def basev (a : List Int) (b : Int) : Bool := match ordOf a with
  | some x => decide (2 ≤ b ∧ b ≤ 90 ∧ most x < b)
  | none => false
theorem implBaseOk_ev {a : List Int} {b : Int} : Tells (fun k => impl_BaseOk.f k a b) (basev a b) := by
  refine Tells.bind ordOf_ev ?_
  unfold basev
  cases h : ordOf a with
  | none => exact Tells.neg (by rw [ordv_none h]; simp) (Tells.now _)
  | some x =>
    rw [ordv_some h]
    refine Tells.pos rfl ?_
    by_cases h1 : b ≥ 2
    · refine Tells.pos h1 ?_
      by_cases h2 : b ≤ 90
      · refine Tells.pos h2 ?_
        have := (ordOf_some h).2.size
        refine Tells.bind (most_ev (by show size x ≤ _; omega)) ?_
        refine Tells.to (Tells.now _) ?_
        by_cases hm : most x < b <;> simp [hm, h1, h2]
      · refine Tells.neg h2 ?_
        refine Tells.to (Tells.now _) ?_
        simp; omega
    · refine Tells.neg h1 ?_
      refine Tells.to (Tells.now _) ?_
      simp; omega
end Go.Proofs.Ytpgkpahhohfmhaa.P

namespace Go.Proofs.Ytpgkpahhohfmhaa.P
open OM Go.RowKit Go.Proofs.YtpgkpahhohfmhaaW.PrintWords Go.Proofs.YtpgkpahhohfmhaaW.PrintLast Go.Proofs.YtpgkpahhohfmhaaW.PrintMore
set_option linter.unusedVariables false

theorem compv_some {a b : List Int} {x y : O} (h : ordOf a = some x) (g : ordOf b = some y) : compv a b = cmp x y := by unfold compv; rw [h, g]
end Go.Proofs.Ytpgkpahhohfmhaa.P

namespace Go.Proofs.Ytpgkpahhohfmhaa.P
open OM Go.RowKit Go.Proofs.YtpgkpahhohfmhaaW.PrintWords Go.Proofs.YtpgkpahhohfmhaaW.PrintLast Go.Proofs.YtpgkpahhohfmhaaW.PrintMore
set_option linter.unusedVariables false

theorem tdiv_ediv {a b : Int} (ha : 0 ≤ a) : Int.tdiv a b = a / b := Int.tdiv_eq_ediv_of_nonneg ha
theorem tmod_emod {a b : Int} (ha : 0 ≤ a) : Int.tmod a b = a % b := Int.tmod_eq_emod_of_nonneg ha
theorem pow_lt_iff {b : Int} (hb : 2 ≤ b) {j k : Nat} (h : b ^ j < b ^ k) : j < k := by
  by_cases g : j < k
  · exact g
  · have := pow_mono (n := b) (by omega) (show k ≤ j by omega)
    omega
theorem pow_step {b : Int} (j : Nat) : b ^ (j + 1) = b ^ j * b := Int.pow_succ b j
theorem pow_gt {b : Int} (hb : 2 ≤ b) (j : Nat) : (j : Int) < b ^ j := by
  induction j with
  | zero => simp
  | succ j ih =>
    rw [pow_step]
    have h1 := pow_pos (n := b) (by omega) j
    have : b ^ j * 2 ≤ b ^ j * b := Int.mul_le_mul_of_nonneg_left hb (by omega)
    simp only [Int.natCast_succ]
    omega
theorem NF_snoc {e : O} {d : Int} (hd : 1 ≤ d) (he : NF e) : ∀ {y : O}, NF y → (∀ y' t, y = y' ++ [t] → Lt e t.f1) → NF (y ++ [⟨d, e⟩]) := by
  intro y
  induction y with
  | nil => intro _ _; exact NF_cons.2 ⟨hd, he, NF_nil, trivial⟩
  | cons t r ih =>
    intro h1 h2
    obtain ⟨c, f⟩ := t
    obtain ⟨g1, g2, g3, g4⟩ := NF_cons.1 h1
    refine NF_cons.2 ⟨g1, g2, ih g3 (fun y' t h => h2 (⟨c, f⟩ :: y') t (by rw [h]; rfl)), ?_⟩
    cases r with
    | nil => exact h2 [] ⟨c, f⟩ rfl
    | cons u s => obtain ⟨g, k⟩ := u; exact g4
theorem most_append (x y : O) : most (x ++ y) = max (most x) (most y) := by
  induction x with
  | nil => rw [most_nil]; show most y = _; have := most_pos y; omega
  | cons t r ih => obtain ⟨c, e⟩ := t; show most (⟨c, e⟩ :: (r ++ y)) = _; rw [most_cons, most_cons, ih]; omega
/-- the ordinal of a number in a base -/
structure IB (b n : Int) (x : O) : Prop where
  nf : NF x
  most : most x < b
  val : val b x = n
  size : size x ≤ 2 * n + 1
theorem IB.uniq {b n : Int} {x y : O} (hb : 2 ≤ b) (hx : IB b n x) (hy : IB b n y) : x = y :=
  val_inj (by omega) hx.nf hy.nf hx.most hy.most (by rw [hx.val, hy.val])
theorem IB.lt {b n m : Int} {x y : O} (hb : 2 ≤ b) (hx : IB b n x) (hy : IB b m y) (h : n < m) : Lt x y := by
  show cmp x y = -1
  rw [val_cmp (by omega) hx.nf hy.nf hx.most hy.most, hx.val, hy.val, if_pos h]
/-- what has been told of a number: y, and n is left -/
structure Part (b N n : Int) (y : O) : Prop where
  nf : NF y
  most : most y < b
  val : OM.val b y + n = N
  size : size y + 2 * n ≤ 2 * N + 1
  last : ∀ y' t, y = y' ++ [t] → n < b ^ (OM.val b t.f1).toNat
theorem Part.start {b N : Int} (hb : 2 ≤ b) : Part b N N [] := ⟨NF_nil, by rw [most_nil]; omega, by rw [val_nil]; omega, by rw [size_nil]; omega, fun y' t h => by simp at h⟩
theorem Part.done {b N : Int} {y : O} (h : Part b N 0 y) : IB b N y := ⟨h.nf, h.most, by have := h.val; omega, by have := h.size; omega⟩
/-- one power more -/
theorem Part.step {b N n : Int} {y e : O} {j : Nat} (hb : 2 ≤ b) (h : Part b N n y) (hn : b ^ j ≤ n) (hn' : n < b ^ (j + 1)) (he : IB b (j : Int) e) : Part b N (n % b ^ j) (y ++ [⟨n / b ^ j, e⟩]) := by
  have hp := pow_pos (n := b) (by omega) j
  have hd1 : 1 ≤ n / b ^ j := by rw [Int.le_ediv_iff_mul_le (by omega)]; omega
  have hd2 : n / b ^ j < b := by
    rw [Int.ediv_lt_iff_lt_mul (by omega)]
    rw [pow_step, Int.mul_comm] at hn'
    exact hn'
  have hm := Int.mul_ediv_add_emod n (b ^ j)
  have hm0 := Int.emod_nonneg n (show b ^ j ≠ 0 by omega)
  have hm1 := Int.emod_lt_of_pos n (show 0 < b ^ j by omega)
  refine ⟨?_, ?_, ?_, ?_, ?_⟩
  · refine NF_snoc hd1 he.nf h.nf (fun y' t hy => ?_)
    obtain ⟨c, f⟩ := t
    have hl := h.last y' ⟨c, f⟩ hy
    have hf := NF_append_last (by rw [← hy]; exact h.nf)
    have hmf : OM.most f < b := by
      have := h.most
      rw [hy, most_append, most_cons] at this
      omega
    have hv := val_nonneg (n := b) (by omega) hf.2
    have hlt : j < (OM.val b f).toNat := pow_lt_iff hb (show b ^ j < _ by simp only at hl; omega)
    show cmp e f = -1
    rw [val_cmp (by omega) he.nf hf.2 he.most hmf, he.val, if_pos (by omega)]
  · have h1 := h.most
    have h2 := he.most
    rw [most_append, most_cons, most_nil]
    omega
  · rw [val_append, val_cons, val_nil, he.val, Int.toNat_natCast]
    have := h.val
    have : n / b ^ j * b ^ j = b ^ j * (n / b ^ j) := Int.mul_comm _ _
    omega
  · have h1 := h.size
    have h2 := he.size
    have h3 := pow_gt hb j
    have h4 : b ^ j ≤ b ^ j * (n / b ^ j) := by
      have := Int.mul_le_mul_of_nonneg_left hd1 (show 0 ≤ b ^ j by omega)
      omega
    rw [size_append, size_cons, size_nil]
    omega
  · intro y' t hy
    have := List.append_inj_right' hy rfl
    injection this with this
    rw [← this]
    show _ < b ^ (OM.val b e).toNat
    rw [he.val, Int.toNat_natCast]
    exact hm1

theorem l4pow {b n : Int} (hb : 2 ≤ b) (hb' : b ≤ 90) (hn' : n ≤ 1000000000) {A : List Int} {B : List (List Int)} {r : List Int} :
    ∀ (d : Nat) (j : Nat), b ^ j ≤ n → (n - b ^ j).toNat < d → (∀ i : Nat, b ^ i ≤ n → n < b ^ (i + 1) → Tells (fun k => spec_l4Ord.l1 k n b A B (b ^ i) (i : Int)) r) → Tells (fun k => spec_l4Ord.l1 k n b A B (b ^ j) (j : Int)) r := by
  intro d
  induction d with
  | zero => intro j h1 h2 h3; omega
  | succ d ih =>
    intro j h1 h2 h3
    by_cases h : n < b ^ (j + 1)
    · exact h3 j h1 h
    · have hp := pow_pos (n := b) (by omega) j
      have hg := pow_gt hb j
      have hs := pow_step (b := b) j
      have hlt : b ^ j * 2 ≤ b ^ j * b := Int.mul_le_mul_of_nonneg_left hb (by omega)
      refine Tells.step (fun k => by rw [spec_l4Ord.l1]) ?_
      refine Tells.neg (by omega) ?_
      have hq : b ^ j ≤ n / b := by rw [Int.le_ediv_iff_mul_le (by omega)]; omega
      have hqn : n / b ≤ n := Int.ediv_le_self _ (by omega)
      rw [tdiv_ediv (by omega), wrap_id (i := n / b) (by omega) (by omega)]
      refine Tells.pos hq ?_
      have hbb : b ^ j * b ≤ n := by omega
      rw [wrap_id (i := b ^ j * b) (by omega) (by omega), wrap_id (i := (j : Int) + 1) (by omega) (by omega), ← hs]
      have := ih (j + 1) (by omega) (by omega) h3
      rw [show ((j + 1 : Nat) : Int) = (j : Int) + 1 by simp] at this
      exact this
theorem l4_l {b N : Int} (hb : 2 ≤ b) (hb' : b ≤ 90) (hN : N ≤ 1000000000) (ih : ∀ e : Int, 0 ≤ e → e < N → ∃ x, IB b e x ∧ Tells (fun k => spec_l4Ord.f k e b) (row x)) :
    ∀ (d : Nat) (n : Int) (y : O), 0 ≤ n → n.toNat < d → n ≤ N → Part b N n y → (y.length : Int) + n ≤ 2000000000 → ∃ x, IB b N x ∧ Tells (fun k => spec_l4Ord.l0 k n b (cs y) (es y)) (row x) := by
  intro d
  induction d with
  | zero => intro n y h0 h1; omega
  | succ d ihd =>
    intro n y h0 h1 hnN hp hl
    by_cases h : n > 0
    · obtain ⟨j, hj1, hj2⟩ : ∃ j : Nat, b ^ j ≤ n ∧ n < b ^ (j + 1) := by
        have : ∀ (m : Nat), (∃ j : Nat, b ^ j ≤ n ∧ n < b ^ (j + 1)) ∨ b ^ m ≤ n := by
          intro m
          induction m with
          | zero => exact .inr (by simp; omega)
          | succ m ihm =>
            rcases ihm with h | h
            · exact .inl h
            · by_cases g : n < b ^ (m + 1)
              · exact .inl ⟨m, h, g⟩
              · exact .inr (by omega)
        rcases this n.toNat with h | h
        · exact h
        · have := pow_gt hb n.toNat; omega
      have hg := pow_gt hb j
      obtain ⟨e, he, hte⟩ := ih (j : Int) (by omega) (by omega)
      have hp' := hp.step hb hj1 hj2 he
      have hpp := pow_pos (n := b) (by omega) j
      have hm0 := Int.emod_nonneg n (show b ^ j ≠ 0 by omega)
      have hm1 := Int.emod_lt_of_pos n (show 0 < b ^ j by omega)
      have hdn : n / b ^ j ≤ n := Int.ediv_le_self _ (by omega)
      have hd0 : 0 ≤ n / b ^ j := Int.ediv_nonneg (by omega) (by omega)
      obtain ⟨x, hx, htx⟩ := ihd (n % b ^ j) (y ++ [⟨n / b ^ j, e⟩]) hm0 (by omega) (by omega) hp' (by simp; omega)
      refine ⟨x, hx, ?_⟩
      refine Tells.step (fun k => by rw [spec_l4Ord.l0]) ?_
      refine Tells.pos h ?_
      have := l4pow (A := cs y) (B := es y) (r := row x) hb hb' (by omega) (n.toNat + 1) 0 (n := n) (by simp; omega) (by simp; omega) (fun i hi1 hi2 => ?_)
      · simpa using this
      · have hij : i = j := by
          have h1 := pow_lt_iff hb (show b ^ i < b ^ (j + 1) by omega)
          have h2 := pow_lt_iff hb (show b ^ j < b ^ (i + 1) by omega)
          omega
        subst hij
        have hp := pow_pos (n := b) (by omega) i
        have hs := pow_step (b := b) i
        have hq : ¬ b ^ i ≤ n / b := by
          intro hc
          rw [Int.le_ediv_iff_mul_le (by omega)] at hc; omega
        have hqn : n / b ≤ n := Int.ediv_le_self _ (by omega)
        have hq0 : 0 ≤ n / b := Int.ediv_nonneg (by omega) (by omega)
        refine Tells.step (fun k => by rw [spec_l4Ord.l1]) ?_
        refine Tells.neg (by omega) ?_
        rw [tdiv_ediv (by omega), wrap_id (i := n / b) (by omega) (by omega)]
        refine Tells.neg hq ?_
        refine Tells.neg (by omega) ?_
        refine Tells.pos (by rw [cs_length]; omega) ?_
        refine Tells.bind hte ?_
        refine Tells.pos (by rw [es_length]; omega) ?_
        rw [tmod_emod (by omega), tdiv_ediv (by omega), wrap_id (by omega) (by omega)]
        rw [show cs y ++ [n / b ^ i] = cs (y ++ [⟨n / b ^ i, e⟩]) by rw [cs_append]; rfl, show es y ++ [row e] = es (y ++ [⟨n / b ^ i, e⟩]) by rw [es_append]; rfl]
        exact htx
    · have h0' : n = 0 := by omega
      subst h0'
      have hx := hp.done
      refine ⟨y, hx, ?_⟩
      refine Tells.step (fun k => by rw [spec_l4Ord.l0]) ?_
      refine Tells.neg h ?_
      have := hx.size
      exact Tells.bind (make_ev (by omega)) (Tells.now _)
theorem l4Ord_ev {b : Int} (hb : 2 ≤ b) (hb' : b ≤ 90) : ∀ (d : Nat) (N : Int), 0 ≤ N → N.toNat < d → N ≤ 1000000000 → ∃ x, IB b N x ∧ Tells (fun k => spec_l4Ord.f k N b) (row x) := by
  intro d
  induction d with
  | zero => intro N h0 h1; omega
  | succ d ih =>
    intro N h0 h1 h2
    obtain ⟨x, hx, ht⟩ := l4_l hb hb' h2 (fun e he0 he1 => ih e he0 (by omega) (by omega)) (N.toNat + 1) N [] h0 (by omega) (by omega) (Part.start hb) (by simp; omega)
    exact ⟨x, hx, Tells.step (fun k => by rw [spec_l4Ord.f]; rfl) ht⟩

def dval (b : Int) : List Int → Int
  | [] => 0
  | d :: l => d + b * dval b l
theorem dval_append (b : Int) (l m : List Int) : dval b (l ++ m) = dval b l + b ^ l.length * dval b m := by
  induction l with
  | nil => simp [dval]
  | cons d l ih => simp only [List.cons_append, dval, ih, List.length_cons, pow_step, Int.mul_add, ← Int.mul_assoc]; rw [Int.mul_comm b (b ^ l.length)]; omega
structure Digs (b n : Int) (ds : List Int) : Prop where
  lo : ∀ d ∈ ds, 0 ≤ d ∧ d < b
  val : dval b ds = n
  top : ∀ ds' d, ds = ds' ++ [d] → 1 ≤ d
theorem dval_lt {b : Int} (hb : 2 ≤ b) : ∀ (l : List Int), (∀ d ∈ l, 0 ≤ d ∧ d < b) → 0 ≤ dval b l ∧ dval b l < b ^ l.length := by
  intro l
  induction l with
  | nil => intro _; simp [dval]
  | cons d l ih =>
    intro h
    obtain ⟨h1, h2⟩ := ih (fun x hx => h x (by simp [hx]))
    have hd := h d (by simp)
    have hm : 0 ≤ b * dval b l := Int.mul_nonneg (by omega) h1
    have hm2 : b * (dval b l + 1) ≤ b * b ^ l.length := Int.mul_le_mul_of_nonneg_left (by omega) (by omega)
    rw [Int.mul_add] at hm2
    simp only [dval, List.length_cons, pow_step]
    rw [Int.mul_comm (b ^ l.length) b]
    omega
theorem digits_l {b : Int} (hb : 2 ≤ b) (hb' : b ≤ 90) : ∀ (d : Nat) (n : Int) (acc : List Int), 0 ≤ n → n.toNat < d → n ≤ 1000000000 → (acc.length : Int) + n ≤ 2000000000 →
    ∃ ds, Digs b n ds ∧ (ds.length : Int) ≤ n ∧ Tells (fun k => impl_digits.l0 k n b acc) (acc ++ ds) := by
  intro d
  induction d with
  | zero => intro n acc h0 h1; omega
  | succ d ih =>
    intro n acc h0 h1 h2 h3
    by_cases h : n > 0
    · have hq0 : 0 ≤ n / b := Int.ediv_nonneg (by omega) (by omega)
      have hqlt : n / b < n := Int.ediv_lt_of_lt_mul (by omega) (by have := Int.mul_le_mul_of_nonneg_left hb (show 0 ≤ n by omega); omega)
      have hm0 := Int.emod_nonneg n (show b ≠ 0 by omega)
      have hm1 := Int.emod_lt_of_pos n (show 0 < b by omega)
      have hme := Int.mul_ediv_add_emod n b
      obtain ⟨ds, hds, hlen, ht⟩ := ih (n / b) (acc ++ [n % b]) hq0 (by omega) (by omega) (by simp; omega)
      refine ⟨n % b :: ds, ⟨?_, ?_, ?_⟩, by simp; omega, ?_⟩
      · intro x hx
        rcases List.mem_cons.1 hx with hx | hx
        · subst hx; exact ⟨hm0, hm1⟩
        · exact hds.lo x hx
      · simp only [dval, hds.val]; omega
      · intro ds' t ht
        cases ds' with
        | nil =>
          have : n % b = t ∧ ds = [] := by simpa using ht
          have hv := hds.val
          rw [this.2] at hv
          simp [dval] at hv
          rw [← hv] at hme
          omega
        | cons u v =>
          have : n % b = u ∧ ds = v ++ [t] := by simpa using ht
          exact hds.top v t this.2
      · refine Tells.step (fun k => by rw [impl_digits.l0]) ?_
        refine Tells.pos h ?_
        refine Tells.neg (by omega) ?_
        refine Tells.pos (by omega) ?_
        rw [tdiv_ediv (by omega), tmod_emod (by omega), wrap_id (by omega) (by omega)]
        refine Tells.to ht (by simp)
    · have h0' : n = 0 := by omega
      subst h0'
      refine ⟨[], ⟨fun d hd => by simp at hd, rfl, fun ds' d h => by simp at h⟩, by simp, ?_⟩
      refine Tells.step (fun k => by rw [impl_digits.l0]) ?_
      exact Tells.neg h (Tells.to (Tells.now _) (by simp))
theorem digits_ev {b n : Int} (hb : 2 ≤ b) (hb' : b ≤ 90) (h0 : 0 ≤ n) (hn : n ≤ 1000000000) : ∃ ds, Digs b n ds ∧ (ds.length : Int) ≤ n ∧ Tells (fun k => impl_digits.f k n b) ds := by
  obtain ⟨ds, h1, h2, h3⟩ := digits_l hb hb' (n.toNat + 1) n [] h0 (by omega) hn (by simp; omega)
  exact ⟨ds, h1, h2, h3⟩
theorem Digs.len {b n : Int} {ds : List Int} (hb : 2 ≤ b) (h : Digs b n ds) (hne : ds ≠ []) : b ^ (ds.length - 1) ≤ n := by
  rcases List.eq_nil_or_concat ds with h' | ⟨l, t, h'⟩
  · exact absurd h' hne
  · rw [List.concat_eq_append] at h'
    have ht := h.top l t h'
    have hv := h.val
    rw [h', dval_append] at hv
    have hl := dval_lt hb l (fun d hd => h.lo d (by rw [h']; simp [hd]))
    have hp := pow_pos (n := b) (by omega) l.length
    have : b ^ l.length * 1 ≤ b ^ l.length * t := Int.mul_le_mul_of_nonneg_left ht (by omega)
    rw [h']
    simp [dval] at hv ⊢
    omega

theorem inBase_l {b N : Int} (hb : 2 ≤ b) (hb' : b ≤ 90) (hN : N ≤ 1000000000) (ih : ∀ e : Int, 0 ≤ e → e < N → ∃ x, IB b e x ∧ Tells (fun k => impl_inBase.f k e b) x) :
    ∀ (lo hi : List Int) (y : O), (∀ d ∈ lo, 0 ≤ d ∧ d < b) → (∀ i : Nat, i < lo.length → (i : Int) < N) → Part b N (dval b lo) y → (y.length : Int) + lo.length ≤ 2000000000 →
      ∃ x, IB b N x ∧ Tells (fun k => impl_inBase.l0 k b y (lo ++ hi) ((lo.length : Int) - 1)) x := by
  intro lo
  induction h : lo.length generalizing lo with
  | zero =>
    intro hi y h1 h2 hp hl
    have : lo = [] := List.eq_nil_of_length_eq_zero h
    subst this
    have hp0 : Part b N 0 y := hp
    have hx := hp0.done
    refine ⟨y, hx, ?_⟩
    refine Tells.step (fun k => by rw [impl_inBase.l0]) ?_
    exact Tells.neg (by simp) (Tells.now _)
  | succ n ihn =>
    intro hi y h1 h2 hp hl
    rcases List.eq_nil_or_concat lo with h' | ⟨l, t, h'⟩
    · rw [h'] at h; simp at h
    · rw [List.concat_eq_append] at h'
      subst h'
      have hln : l.length = n := by simpa using h
      have ht := h1 t (by simp)
      have hv : dval b (l ++ [t]) = dval b l + b ^ n * t := by rw [dval_append, hln]; simp [dval]
      have hll := dval_lt hb l (fun d hd => h1 d (by simp [hd]))
      rw [hln] at hll
      have hpp := pow_pos (n := b) (by omega) n
      have hnN := h2 n (by omega)
      have hrd : rd ((l ++ [t]) ++ hi) ((n : Int) + 1 - 1) = t := by
        rw [List.append_assoc]; exact rd_mid l hi t (by omega)
      have htp : 0 ≤ b ^ n * t := Int.mul_nonneg (by omega) (by omega)
      have fin : ∀ y', Part b N (dval b l) y' → (y'.length : Int) + n ≤ 2000000000 → ∃ x, IB b N x ∧ Tells (fun k => impl_inBase.l0 k b y' ((l ++ [t]) ++ hi) (wrap64 ((n : Int) + 1 - 1 - 1))) x := by
        intro y' hp' hl'
        rw [wrap_id (by omega) (by omega), List.append_assoc]
        have := ihn l hln ([t] ++ hi) y' (fun d hd => h1 d (by simp [hd])) (fun i hi => h2 i (by omega)) hp' (by omega)
        rw [show (n : Int) + 1 - 1 - 1 = (n : Int) - 1 by omega]
        exact this
      by_cases hz : t > 0
      · obtain ⟨e, he, hte⟩ := ih (n : Int) (by omega) hnN
        have hn1 : b ^ n ≤ dval b (l ++ [t]) := by
          have : b ^ n * 1 ≤ b ^ n * t := Int.mul_le_mul_of_nonneg_left (by omega) (by omega)
          omega
        have hn2 : dval b (l ++ [t]) < b ^ (n + 1) := by
          have : b ^ n * (t + 1) ≤ b ^ n * b := Int.mul_le_mul_of_nonneg_left (by omega) (by omega)
          rw [Int.mul_add] at this
          rw [pow_step]; omega
        have hp' := hp.step hb hn1 hn2 he
        have hmod : dval b (l ++ [t]) % b ^ n = dval b l := by
          rw [hv, Int.add_mul_emod_self_left, Int.emod_eq_of_lt hll.1 hll.2]
        have hdiv : dval b (l ++ [t]) / b ^ n = t := by
          rw [hv, Int.add_mul_ediv_left _ _ (show b ^ n ≠ 0 by omega), Int.ediv_eq_zero_of_lt hll.1 hll.2]; omega
        rw [hmod, hdiv] at hp'
        obtain ⟨x, hx, htx⟩ := fin (y ++ [⟨t, e⟩]) hp' (by simp; omega)
        refine ⟨x, hx, ?_⟩
        refine Tells.step (fun k => by rw [impl_inBase.l0]) ?_
        refine Tells.pos (by simp <;> omega) ?_
        refine Tells.pos (by simp <;> omega) ?_
        refine Tells.pos (by simp <;> omega) ?_
        rw [show (((n + 1 : Nat) : Int) - 1) = (n : Int) + 1 - 1 by simp, hrd]
        refine Tells.pos hz ?_
        rw [show (n : Int) + 1 - 1 = (n : Int) by omega]
        refine Tells.bind hte ?_
        refine Tells.pos (by omega) ?_
        rw [show (n : Int) + 1 - 1 - 1 = (n : Int) - 1 by omega] at htx
        exact htx
      · have ht0 : t = 0 := by omega
        subst ht0
        have hp' : Part b N (dval b l) y := by rw [hv] at hp; simpa using hp
        obtain ⟨x, hx, htx⟩ := fin y hp' (by omega)
        refine ⟨x, hx, ?_⟩
        refine Tells.step (fun k => by rw [impl_inBase.l0]) ?_
        refine Tells.pos (by simp <;> omega) ?_
        refine Tells.pos (by simp <;> omega) ?_
        refine Tells.pos (by simp <;> omega) ?_
        rw [show (((n + 1 : Nat) : Int) - 1) = (n : Int) + 1 - 1 by simp, hrd]
        refine Tells.neg (by omega) ?_
        exact htx
theorem inBase_ev {b : Int} (hb : 2 ≤ b) (hb' : b ≤ 90) : ∀ (d : Nat) (N : Int), 0 ≤ N → N.toNat < d → N ≤ 1000000000 → ∃ x, IB b N x ∧ Tells (fun k => impl_inBase.f k N b) x := by
  intro d
  induction d with
  | zero => intro N h0 h1; omega
  | succ d ih =>
    intro N h0 h1 h2
    obtain ⟨ds, hds, hlen, hd⟩ := digits_ev hb hb' h0 h2
    have hlt : ∀ i : Nat, i < ds.length → (i : Int) < N := by intro i hi; omega
    have hp : Part b N (dval b ds) [] := by rw [hds.val]; exact Part.start hb
    obtain ⟨x, hx, ht⟩ := inBase_l hb hb' h2 (fun e he0 he1 => ih e he0 (by omega) (by omega)) ds [] [] hds.lo hlt hp (by simp; omega)
    refine ⟨x, hx, ?_⟩
    refine Tells.step (fun k => by rw [impl_inBase.f]) ?_
    refine Tells.bind hd ?_
    rw [wrap_id (by omega) (by omega)]
    rw [List.append_nil] at ht
    exact ht
/-- both tell one ordinal -/
theorem both_inBase {b N : Int} (hb : 2 ≤ b) (hb' : b ≤ 90) (h0 : 0 ≤ N) (hN : N ≤ 1000000000) : ∃ x, IB b N x ∧ Tells (fun k => impl_inBase.f k N b) x ∧ Tells (fun k => spec_l4Ord.f k N b) (row x) := by
  obtain ⟨x, hx, h1⟩ := inBase_ev hb hb' (N.toNat + 1) N h0 (by omega) hN
  obtain ⟨y, hy, h2⟩ := l4Ord_ev hb hb' (N.toNat + 1) N h0 (by omega) hN
  have := IB.uniq hb hx hy
  subst this
  exact ⟨x, hx, h1, h2⟩
end Go.Proofs.Ytpgkpahhohfmhaa.P

namespace Go.Proofs.Ytpgkpahhohfmhaa.P
open OM Go.RowKit Go.Proofs.YtpgkpahhohfmhaaW.PrintWords Go.Proofs.YtpgkpahhohfmhaaW.PrintLast Go.Proofs.YtpgkpahhohfmhaaW.PrintMore
set_option linter.unusedVariables false
/-- the row that is told, or none -/
def fit (x : O) : List Int := if size x ≤ 60 then row x else []
theorem fit_length (x : O) : ((fit x).length : Int) ≤ 60 := by
  unfold fit
  split
  · rw [row_length]; assumption
  · simp
theorem toldv_fit {x : O} (h : most x ≤ 9999) : (toldv x).1 = fit x := by
  unfold toldv fit
  by_cases g : size x ≤ 60
  · rw [if_pos ⟨g, h⟩, if_pos g]
  · rw [if_neg (by omega), if_neg g]
def InB (b n : Int) : Prop := 0 ≤ n ∧ n ≤ 1000000000 ∧ 2 ≤ b ∧ b ≤ 90
theorem specInBase_no {a b : Int} (h : ¬ InB b a) : Tells (fun k => spec_OrdInBase.f k a b) [] := by
  unfold InB at h
  refine Tells.bind (Tells.const (l1In_eq a 0 1000000000)) ?_
  by_cases h1 : 0 ≤ a ∧ a ≤ 1000000000
  · refine Tells.pos (decide_eq_true h1) ?_
    refine Tells.bind (Tells.const (l1In_eq b 2 90)) ?_
    exact Tells.neg (by simp; omega) (Tells.now _)
  · exact Tells.neg (by simp; omega) (Tells.now _)
theorem specInBase_ev {a b : Int} {x : O} (h : InB b a) (hx : Tells (fun k => spec_l4Ord.f k a b) (row x)) : Tells (fun k => spec_OrdInBase.f k a b) (fit x) := by
  obtain ⟨h1, h2, h3, h4⟩ := h
  refine Tells.bind (Tells.const (l1In_eq a 0 1000000000)) ?_
  refine Tells.pos (by simp; omega) ?_
  refine Tells.bind (Tells.const (l1In_eq b 2 90)) ?_
  refine Tells.pos (by simp; omega) ?_
  refine Tells.bind hx ?_
  have hl := row_length x
  unfold fit
  by_cases g : size x ≤ 60
  · rw [if_pos g]
    refine Tells.neg (by omega) ?_
    exact Tells.bind hx (Tells.now _)
  · rw [if_neg g]
    exact Tells.pos (by omega) (Tells.now _)
theorem implInBase_no {a b : Int} (h : ¬ InB b a) : Tells (fun k => impl_OrdInBase.f k a b) [] := by
  unfold InB at h
  have bad : Tells (fun k => impl_OrdInBase.j0 k a b true) [] := by
    refine Tells.step (fun k => by rw [impl_OrdInBase.j0]) ?_
    exact Tells.pos rfl (Tells.now _)
  by_cases h1 : a < 0
  · exact Tells.pos h1 bad
  · refine Tells.neg h1 ?_
    by_cases h2 : a > 1000000000
    · exact Tells.pos h2 bad
    · refine Tells.neg h2 ?_
      by_cases h3 : b < 2
      · exact Tells.pos h3 bad
      · refine Tells.neg h3 ?_
        rw [decide_eq_true (show b > 90 by omega)]; exact bad
theorem implInBase_ev {a b : Int} {x : O} (h : InB b a) (hz : size x ≤ 10000000000) (hm : most x ≤ 9999) (hx : Tells (fun k => impl_inBase.f k a b) x) : Tells (fun k => impl_OrdInBase.f k a b) (fit x) := by
  obtain ⟨h1, h2, h3, h4⟩ := h
  refine Tells.neg (by omega) ?_
  refine Tells.neg (by omega) ?_
  refine Tells.neg (by omega) ?_
  rw [decide_eq_false (show ¬ b > 90 by omega)]
  refine Tells.step (fun k => by rw [impl_OrdInBase.j0]) ?_
  refine Tells.neg (by simp) ?_
  refine Tells.bind hx ?_
  refine Tells.bind (told_ev hz) ?_
  exact Tells.to (Tells.now _) (toldv_fit hm)
theorem both_OrdInBase' {a b : Int} (h : InB b a) : ∃ x, IB b a x ∧ Tells (fun k => spec_OrdInBase.f k a b) (fit x) ∧ Tells (fun k => impl_OrdInBase.f k a b) (fit x) := by
  obtain ⟨h1, h2, h3, h4⟩ := h
  obtain ⟨x, hx, g1, g2⟩ := both_inBase h3 h4 h1 h2
  have := hx.size
  have := hx.most
  exact ⟨x, hx, specInBase_ev ⟨h1, h2, h3, h4⟩ g2, implInBase_ev ⟨h1, h2, h3, h4⟩ (by omega) (by omega) g1⟩
end Go.Proofs.Ytpgkpahhohfmhaa.P

namespace Go.Proofs.Ytpgkpahhohfmhaa.P
open OM Go.RowKit Go.Proofs.YtpgkpahhohfmhaaW.PrintWords Go.Proofs.YtpgkpahhohfmhaaW.PrintLast Go.Proofs.YtpgkpahhohfmhaaW.PrintMore
set_option linter.unusedVariables false

/-- the value, or -1 if it is too great -/
def slowv (n : Int) (x : O) : Int := if val n x > 1000000000 then -1 else val n x
theorem pow_step' (b : Int) (j : Nat) : b ^ (j + 1) = b ^ j * b := Int.pow_succ b j
theorem pow_gt' {b : Int} (hb : 2 ≤ b) (j : Nat) : (j : Int) < b ^ j := by
  induction j with
  | zero => simp
  | succ j ih =>
    rw [pow_step']
    have h1 := pow_pos (n := b) (by omega) j
    have : b ^ j * 2 ≤ b ^ j * b := Int.mul_le_mul_of_nonneg_left hb (by omega)
    simp only [Int.natCast_succ]
    omega
theorem one_pow' (j : Nat) : (1 : Int) ^ j = 1 := by
  induction j with
  | zero => rfl
  | succ j ih => rw [pow_step', ih]; rfl
/-- the value for 1 is small -/
theorem val_one : ∀ {x : O}, NF x → most x ≤ 9999 → val 1 x ≤ 9999 * size x := by
  intro x
  induction x using ind with
  | h0 => intro _ _; rw [val_nil, size_nil]; omega
  | h1 c e r ihe ihr =>
    intro h1 h2
    obtain ⟨g1, g2, g3, g4⟩ := NF_cons.1 h1
    rw [most_cons] at h2
    have := ihr g3 (by omega)
    have := size_pos e
    rw [val_cons, size_cons, one_pow']
    omega
/-- an exponent's value that is too great makes the value too great -/
theorem slow_big {n c : Int} {e r : O} (hn : 1 ≤ n) (h : NF (⟨c, e⟩ :: r)) (hb : val n e > 1000000000) (h1 : n = 1 → val n e ≤ 1000000000) : val n (⟨c, e⟩ :: r) > 1000000000 := by
  obtain ⟨g1, g2, g3, g4⟩ := NF_cons.1 h
  have hr := val_nonneg hn g3
  have h2 : 2 ≤ n := by
    rcases Int.lt_or_le n 2 with g | g
    · have := h1 (by omega); omega
    · exact g
  have h3 := pow_gt' h2 (val n e).toNat
  have h4 := mul_pow_pos hn g1 (val n e).toNat
  rw [val_cons]
  omega
/-- the inner loop: the value grows by one more factor, up to the power -/
theorem slow1_l {n c : Int} {x : O} {acc i : Int} {len : Int} (hn : 2 ≤ n) (hn' : n ≤ 99) (hc : 1 ≤ c) (m : Nat) (hm : (m : Int) ≤ 1000000000) (ha : 0 ≤ acc) (ha' : acc ≤ 1000000000) {R : Int} (hbig : acc + c * n ^ m > 1000000000 → R = -1) (hgo : acc + c * n ^ m ≤ 1000000000 → Tells (fun k => impl_slow.l0 k n (acc + c * n ^ m) x len (wrap64 (i + 1))) R) :
    ∀ (d j : Nat), j + d = m → c * n ^ j ≤ 1000000000 ∨ j = 0 ∧ c ≤ 9999 → Tells (fun k => impl_slow.l1 k n acc (c * n ^ j) x len i (m : Int) (j : Int)) R := by
  intro d
  induction d with
  | zero =>
    intro j h1 h2
    have : j = m := by omega
    subst this
    have hcp : c * n ^ j ≤ 1000000000 := by
      rcases h2 with h | ⟨h, h'⟩
      · exact h
      · subst h; simp; omega
    have hcp0 : 0 ≤ c * n ^ j := Int.mul_nonneg (by omega) (by have := pow_pos (n := n) (by omega) j; omega)
    refine Tells.step (fun k => by rw [impl_slow.l1]) ?_
    refine Tells.neg (by omega) ?_
    rw [wrap_id (i := acc + c * n ^ j) (by omega) (by omega)]
    by_cases h : acc + c * n ^ j > 1000000000
    · refine Tells.pos h ?_
      rw [hbig h]; exact Tells.now _
    · exact Tells.neg h (hgo (by omega))
  | succ d ih =>
    intro j h1 h2
    have hcp : c * n ^ j ≤ 1000000000 := by
      rcases h2 with h | ⟨h, h'⟩
      · exact h
      · subst h; simp; omega
    have hcp0 : 0 ≤ c * n ^ j := Int.mul_nonneg (by omega) (by have := pow_pos (n := n) (by omega) j; omega)
    have hs : c * n ^ j * n = c * n ^ (j + 1) := by rw [pow_step', Int.mul_assoc]
    have h3 : c * n ^ j * n ≤ 1000000000 * 99 := Int.mul_le_mul hcp hn' (by omega) (by omega)
    have h4 : 0 ≤ c * n ^ j * n := Int.mul_nonneg hcp0 (by omega)
    refine Tells.step (fun k => by rw [impl_slow.l1]) ?_
    refine Tells.pos (by omega) ?_
    rw [wrap_id (i := c * n ^ j * n) (by omega) (by omega), wrap_id (i := (j : Int) + 1) (by omega) (by omega), hs]
    by_cases h : c * n ^ (j + 1) > 1000000000
    · refine Tells.pos h ?_
      have h5 := pow_mono (n := n) (by omega) (show j + 1 ≤ m by omega)
      have h6 : c * n ^ (j + 1) ≤ c * n ^ m := Int.mul_le_mul_of_nonneg_left h5 (by omega)
      rw [hbig (by omega)]; exact Tells.now _
    · refine Tells.neg h ?_
      have := ih (j + 1) (by omega) (.inl (by omega))
      rw [show ((j + 1 : Nat) : Int) = (j : Int) + 1 by simp] at this
      exact this
theorem implSlow_l {n : Int} (hn : 1 ≤ n) (hn' : n ≤ 99) : ∀ (r p : O) (acc : Int), NF r → most r ≤ 9999 → size r ≤ 60 → size (p ++ r) ≤ 60 → 0 ≤ acc → acc ≤ 1000000000 →
    Tells (fun k => impl_slow.l0 k n acc (p ++ r) ((p ++ r).length : Int) (p.length : Int)) (if acc + val n r > 1000000000 then -1 else acc + val n r) := by
  intro r
  induction r using ind with
  | h0 =>
    intro p acc h1 h2 h3 h4 h5 h6
    refine Tells.step (fun k => by rw [impl_slow.l0]) ?_
    refine Tells.neg (by simp) ?_
    refine Tells.to (Tells.now _) ?_
    rw [val_nil, if_neg (by omega)]; omega
  | h1 c e r ihe ihr =>
    intro p acc h1 h2 h3 h4 h5 h6
    obtain ⟨g1, g2, g3, g4⟩ := NF_cons.1 h1
    have hp := length_le_size (p ++ ⟨c, e⟩ :: r)
    simp only [List.length_append, List.length_cons] at hp
    have m2 := h2
    have z3 := h3
    rw [most_cons] at m2
    rw [size_cons] at z3
    have := size_pos e
    have := size_pos r
    have hve := val_nonneg hn g2
    have hvr := val_nonneg hn g3
    have hone : n = 1 → val n e ≤ 1000000000 := by
      intro h
      rw [h]
      have := val_one g2 (by omega)
      omega
    refine Tells.step (fun k => by rw [impl_slow.l0]) ?_
    refine Tells.pos (by simp; omega) ?_
    refine Tells.pos (by omega) ?_
    refine Tells.pos (by simp; omega) ?_
    rw [rdT_mid p r ⟨c, e⟩ rfl]
    have hf : Tells (fun k => impl_slow.f k e n) (slowv n e) := by
      refine Tells.step (fun k => by rw [impl_slow.f]) ?_
      have := ihe [] 0 g2 (by omega) (by omega) (by show size e ≤ _; omega) (by omega) (by omega)
      rw [Int.zero_add] at this
      exact this
    refine Tells.bind hf ?_
    unfold slowv
    by_cases hbe : val n e > 1000000000
    · have hb := slow_big hn h1 hbe hone
      rw [if_pos hbe]
      refine Tells.pos (by omega) ?_
      rw [if_pos (by omega)]; exact Tells.now _
    · rw [if_neg hbe]
      refine Tells.neg (by omega) ?_
      have hpp := pow_pos hn (val n e).toNat
      have hmp := mul_pow_pos hn g1 (val n e).toNat
      have hsum : acc + val n (⟨c, e⟩ :: r) = acc + c * n ^ (val n e).toNat + val n r := by rw [val_cons]; omega
      rw [hsum]
      have next : ∀ q, 0 ≤ q → acc + q ≤ 1000000000 → Tells (fun k => impl_slow.l0 k n (acc + q) (p ++ ⟨c, e⟩ :: r) ((p ++ ⟨c, e⟩ :: r).length : Int) (wrap64 ((p.length : Int) + 1))) (if acc + q + val n r > 1000000000 then -1 else acc + q + val n r) := by
        intro q hq1 hq2
        rw [wrap_id (by omega) (by omega), snoc p]
        have := ihr (p ++ [⟨c, e⟩]) (acc + q) g3 (by omega) (by omega) (by rw [← snoc]; exact h4) (by omega) hq2
        rw [show ((p ++ [(⟨c, e⟩ : Tm)]).length : Int) = (p.length : Int) + 1 by simp] at this
        exact this
      by_cases hn1 : n > 1
      · refine Tells.pos hn1 ?_
        have := slow1_l (x := p ++ ⟨c, e⟩ :: r) (len := ((p ++ ⟨c, e⟩ :: r).length : Int)) (i := (p.length : Int)) (acc := acc) (R := if acc + c * n ^ (val n e).toNat + val n r > 1000000000 then -1 else acc + c * n ^ (val n e).toNat + val n r) (show 2 ≤ n by omega) hn' g1 (val n e).toNat (by omega) h5 h6 (fun h => by rw [if_pos (by omega)]) (fun h => next _ (by omega) h) (val n e).toNat 0 (by omega) (.inr ⟨rfl, by omega⟩)
        rw [Int.toNat_of_nonneg hve] at this
        simpa using this
      · refine Tells.neg hn1 ?_
        have h1' : n = 1 := by omega
        subst h1'
        have hq : c * 1 ^ (val 1 e).toNat = c := by rw [one_pow', Int.mul_one]
        rw [hq]
        show Tells (fun k => if wrap64 (acc + c) > 1000000000 then some (-1) else impl_slow.l0 k 1 (wrap64 (acc + c)) (p ++ ⟨c, e⟩ :: r) ((p ++ ⟨c, e⟩ :: r).length : Int) (wrap64 ((p.length : Int) + 1))) _
        rw [wrap_id (i := acc + c) (by omega) (by omega)]
        by_cases hbs : acc + c > 1000000000
        · refine Tells.pos hbs ?_
          rw [if_pos (by omega)]; exact Tells.now _
        · exact Tells.neg hbs (next c (by omega) (by omega))
theorem implSlow_ev {n : Int} {x : O} (hn : 1 ≤ n) (hn' : n ≤ 99) (hx : Vd x) : Tells (fun k => impl_slow.f k x n) (slowv n x) := by
  have hz := hx.size
  refine Tells.step (fun k => by rw [impl_slow.f]) ?_
  have := implSlow_l hn hn' x [] 0 hx.1 hx.2.1 hz hz (by omega) (by omega)
  rw [Int.zero_add] at this
  exact this
def slowValv (a : List Int) (n : Int) : Int := match ordOf a with
  | some x => if 1 ≤ n ∧ n ≤ 99 then slowv n x else -1
  | none => -1
theorem slowValv_some {l : List Int} {x : O} (h : ordOf l = some x) (n : Int) : slowValv l n = if 1 ≤ n ∧ n ≤ 99 then slowv n x else -1 := by unfold slowValv; rw [h]
theorem slowValv_none {l : List Int} (h : ordOf l = none) (n : Int) : slowValv l n = -1 := by unfold slowValv; rw [h]
theorem implSlowValue_ev {a : List Int} {n : Int} : Tells (fun k => impl_SlowValue.f k a n) (slowValv a n) := by
  refine Tells.bind ordOf_ev ?_
  cases h : ordOf a with
  | none => rw [slowValv_none h]; exact Tells.neg (by rw [ordv_none h]; simp) (Tells.now _)
  | some x =>
    rw [ordv_some h, slowValv_some h]
    refine Tells.pos rfl ?_
    obtain ⟨h1, h2⟩ := ordOf_some h
    by_cases g1 : n < 1
    · rw [if_neg (by omega)]; exact Tells.pos g1 (Tells.now _)
    · refine Tells.neg g1 ?_
      by_cases g2 : n > 99
      · rw [if_neg (by omega)]; exact Tells.pos g2 (Tells.now _)
      · refine Tells.neg g2 ?_
        rw [if_pos (by omega)]
        exact Tells.bind (implSlow_ev (by omega) (by omega) h2) (Tells.now _)
end Go.Proofs.Ytpgkpahhohfmhaa.P

namespace Go.Proofs.Ytpgkpahhohfmhaa.P
open OM Go.RowKit Go.Proofs.YtpgkpahhohfmhaaW.PrintWords Go.Proofs.YtpgkpahhohfmhaaW.PrintLast Go.Proofs.YtpgkpahhohfmhaaW.PrintMore
set_option linter.unusedVariables false

theorem IB_vd {b n : Int} {x : O} (h : IB b n x) (hb : b ≤ 90) (hz : size x ≤ 60) : Vd x := ⟨h.nf, by have := h.most; omega, hz⟩
end Go.Proofs.Ytpgkpahhohfmhaa.P

namespace Go.Proofs.Ytpgkpahhohfmhaa.P
open OM Go.RowKit Go.Proofs.YtpgkpahhohfmhaaW.PrintWords Go.Proofs.YtpgkpahhohfmhaaW.PrintLast Go.Proofs.YtpgkpahhohfmhaaW.PrintMore
set_option linter.unusedVariables false

theorem byte_range {x : Int} (h : (Lit.int .u8 x).wf = true) : 0 ≤ x ∧ x ≤ 255 := by
  simp [Lit.wf, IntKind.min, IntKind.max, IntKind.signed, IntKind.bits] at h
  omega
/-- drawn from: bytes, not too many -/
def Bytes (b : List Int) : Prop := (b.length : Int) ≤ 2000 ∧ ∀ x ∈ b, 0 ≤ x ∧ x ≤ 255
theorem open_ev {l : List Int} (h : ∀ x ∈ l, (Lit.int .u8 x).wf = true) : ∃ b, Bytes b ∧ spec_l20Open.f l = some (b, 0) := by
  unfold spec_l20Open.f
  by_cases g : (l.length : Int) > 2000
  · refine ⟨l.take 2000, ⟨by simp; omega, fun x hx => byte_range (h x (List.mem_of_mem_take hx))⟩, ?_⟩
    rw [if_pos g, if_pos (by omega)]
  · refine ⟨l, ⟨by omega, fun x hx => byte_range (h x hx)⟩, ?_⟩
    rw [if_neg g]
theorem bytes_rd {b : List Int} (h : Bytes b) (i : Int) : 0 ≤ rd b i ∧ rd b i ≤ 255 := by
  show 0 ≤ b.getD i.toNat 0 ∧ b.getD i.toNat 0 ≤ 255
  rw [List.getD_eq_getElem?_getD]
  cases hj : b[i.toNat]? with
  | none => simp
  | some v =>
    obtain ⟨hjl, hjp⟩ := List.getElem?_eq_some_iff.1 hj
    have := h.2 v (by rw [← hjp]; exact List.getElem_mem hjl)
    simpa using this
theorem xor_nonneg {x y : Int} (hx : 0 ≤ x) (hx' : x ≤ 1000000000000000000) (hy : 0 ≤ y) (hy' : y ≤ 1000000000000000000) : 0 ≤ Go.bits .xor .i64 x y := by
  unfold Go.bits
  show 0 ≤ IntKind.i64.wrap ((BitVec.ofInt 64 x ^^^ BitVec.ofInt 64 y).toNat : Int)
  have h1 : (BitVec.ofInt 64 x ^^^ BitVec.ofInt 64 y).toNat < 2 ^ 63 := by
    rw [BitVec.toNat_xor]
    refine Nat.xor_lt_two_pow ?_ ?_
    · rw [BitVec.toNat_ofInt]; omega
    · rw [BitVec.toNat_ofInt]; omega
  rw [i64_w]
  unfold wrap64
  omega
theorem mix_range {r1 r2 p q : Int} (h1 : 0 ≤ r1 ∧ r1 ≤ 255) (h2 : 0 ≤ r2 ∧ r2 ≤ 255) (h3 : 0 ≤ p ∧ p ≤ 1000000000) (h4 : 0 ≤ q ∧ q ≤ 1000000000) :
    0 ≤ wrap64 ((wrap64 ((wrap64 ((wrap64 ((wrap64 r1) * 131)) + (wrap64 ((wrap64 r2) * 1117)))) + (wrap64 (p * 29)))) + (wrap64 ((wrap64 q) * 53))) ∧ wrap64 ((wrap64 ((wrap64 ((wrap64 ((wrap64 r1) * 131)) + (wrap64 ((wrap64 r2) * 1117)))) + (wrap64 (p * 29)))) + (wrap64 ((wrap64 q) * 53))) ≤ 1000000000000 := by
  rw [wrap_id (i := r1) (by omega) (by omega), wrap_id (i := r2) (by omega) (by omega), wrap_id (i := q) (by omega) (by omega), wrap_id (i := r1 * 131) (by omega) (by omega), wrap_id (i := r2 * 1117) (by omega) (by omega), wrap_id (i := p * 29) (by omega) (by omega), wrap_id (i := q * 53) (by omega) (by omega), wrap_id (i := r1 * 131 + r2 * 1117) (by omega) (by omega), wrap_id (i := r1 * 131 + r2 * 1117 + p * 29) (by omega) (by omega), wrap_id (i := r1 * 131 + r2 * 1117 + p * 29 + q * 53) (by omega) (by omega)]
  omega
theorem shift_ok {x : Int} (h : 0 ≤ x ∧ x ≤ 1000000000000) : 0 ≤ Go.bits .xor .i64 x (wrap64 (Int.tdiv x 64)) := by
  have h1 : Int.tdiv x 64 = x / 64 := Int.tdiv_eq_ediv_of_nonneg h.1
  rw [h1]
  refine xor_nonneg h.1 (by omega) ?_ ?_ <;> (unfold wrap64; omega)
theorem tmod_range {x a : Int} (hx : 0 ≤ x) (ha : 1 ≤ a) : 0 ≤ Int.tmod x a ∧ Int.tmod x a < a := by
  rw [Int.tmod_eq_emod_of_nonneg hx]
  exact ⟨Int.emod_nonneg _ (by omega), Int.emod_lt_of_pos _ (by omega)⟩
theorem tdiv_range {x a : Int} (hx : 0 ≤ x) (ha : 1 ≤ a) : 0 ≤ Int.tdiv x a ∧ Int.tdiv x a ≤ x := by
  rw [Int.tdiv_eq_ediv_of_nonneg hx]
  exact ⟨Int.ediv_nonneg hx (by omega), Int.ediv_le_self _ hx⟩
theorem pick_ev {b : List Int} (hb : Bytes b) {p a : Int} (hp : 0 ≤ p) (hp' : p ≤ 1000000000) : ∃ v, 0 ≤ v ∧ (1 ≤ a → v < a) ∧ Tells (fun k => spec_l20Rd_pick.f k b p a) (v, p + 1) := by
  have hw : wrap64 (p + 1) = p + 1 := wrap_id (by omega) (by omega)
  have hw' : wrap64 (p + 1 - 1) = p := by rw [wrap_id (by omega) (by omega)]; omega
  have hl := hb.1
  by_cases h1 : a < 1
  · refine ⟨0, by omega, by omega, ?_⟩
    refine Tells.pos h1 ?_
    refine Tells.step (fun k => by rw [spec_l20Rd_pick.j0]) ?_
    rw [hw]
    exact Tells.pos rfl (Tells.now _)
  · by_cases h2 : b = []
    · refine ⟨0, by omega, by omega, ?_⟩
      refine Tells.neg h1 ?_
      subst h2
      refine Tells.step (fun k => by rw [spec_l20Rd_pick.j0]) ?_
      rw [hw]
      exact Tells.pos rfl (Tells.now _)
    · have hlen : 1 ≤ (b.length : Int) := by have := List.length_pos_iff.2 h2; omega
      have hflag : ((b.length : Int) == 0) = false := by simp; exact h2
      have start : ∀ v, Tells (fun k => spec_l20Rd_pick.j0 k a false b (p + 1)) (v, p + 1) → Tells (fun k => spec_l20Rd_pick.f k b p a) (v, p + 1) := by
        intro v h
        refine Tells.neg h1 ?_
        rw [hflag, hw]; exact h
      by_cases h3 : p < (b.length : Int)
      · have hr := bytes_rd hb p
        have hwr : wrap64 (rd b p) = rd b p := wrap_id (by omega) (by omega)
        have ht := tmod_range (x := rd b p) (a := a) hr.1 (by omega)
        refine ⟨Int.tmod (rd b p) a, ht.1, fun _ => ht.2, start _ ?_⟩
        refine Tells.step (fun k => by rw [spec_l20Rd_pick.j0]) ?_
        refine Tells.neg (by simp) ?_
        rw [hw', hwr]
        refine Tells.pos h3 ?_
        refine Tells.pos hp ?_
        refine Tells.neg (by omega) ?_
        exact Tells.now _
      · have i1 := tmod_range (x := p) (a := (b.length : Int)) hp hlen
        have e2 : wrap64 (wrap64 (p * 7) + 3) = p * 7 + 3 := by rw [wrap_id (i := p * 7) (by omega) (by omega), wrap_id (by omega) (by omega)]
        have i2 := tmod_range (x := p * 7 + 3) (a := (b.length : Int)) (by omega) hlen
        have q1 := tdiv_range (x := p) (a := (b.length : Int)) hp hlen
        have hx := shift_ok (mix_range (bytes_rd hb (Int.tmod p (b.length : Int))) (bytes_rd hb (Int.tmod (p * 7 + 3) (b.length : Int))) ⟨hp, hp'⟩ ⟨q1.1, by omega⟩)
        have ht := tmod_range (a := a) hx (by omega)
        refine ⟨_, ht.1, fun _ => ht.2, start _ ?_⟩
        refine Tells.step (fun k => by rw [spec_l20Rd_pick.j0]) ?_
        refine Tells.neg (by simp) ?_
        rw [hw', e2]
        refine Tells.neg h3 ?_
        refine Tells.neg (by omega) ?_
        refine Tells.pos i1.1 ?_
        refine Tells.pos i1.2 ?_
        refine Tells.pos i2.1 ?_
        refine Tells.pos i2.2 ?_
        refine Tells.neg (by omega) ?_
        exact Tells.now _
end Go.Proofs.Ytpgkpahhohfmhaa.P

namespace Go.Proofs.Ytpgkpahhohfmhaa.P
open OM Go.RowKit Go.Proofs.YtpgkpahhohfmhaaW.PrintWords Go.Proofs.YtpgkpahhohfmhaaW.PrintLast Go.Proofs.YtpgkpahhohfmhaaW.PrintMore
set_option linter.unusedVariables false

theorem count_ev {b : List Int} (hb : Bytes b) {p : Int} (hp : 0 ≤ p) (hp' : p ≤ 100000000) : ∃ v p', p ≤ p' ∧ p' ≤ p + 10 ∧ Tells (fun k => spec_l20Count.f k b p) (v, p') := by
  obtain ⟨v0, _, _, t0⟩ := pick_ev hb (a := 4) hp (by omega)
  by_cases h0 : v0 = 0
  · obtain ⟨v1, _, _, t1⟩ := pick_ev hb (p := p + 1) (a := 20) (by omega) (by omega)
    exact ⟨_, _, by omega, by omega, Tells.bind t0 (Tells.pos h0 (Tells.bind t1 (Tells.now _)))⟩
  · by_cases h1 : v0 = 1
    · obtain ⟨v1, _, _, t1⟩ := pick_ev hb (p := p + 1) (a := 256) (by omega) (by omega)
      obtain ⟨v2, _, _, t2⟩ := pick_ev hb (p := p + 1 + 1) (a := 256) (by omega) (by omega)
      exact ⟨_, _, by omega, by omega, Tells.bind t0 (Tells.neg h0 (Tells.pos h1 (Tells.bind t1 (Tells.bind t2 (Tells.now _)))))⟩
    · by_cases h2 : v0 = 2
      · obtain ⟨v1, _, _, t1⟩ := pick_ev hb (p := p + 1) (a := 256) (by omega) (by omega)
        obtain ⟨v2, _, _, t2⟩ := pick_ev hb (p := p + 1 + 1) (a := 256) (by omega) (by omega)
        obtain ⟨v3, _, _, t3⟩ := pick_ev hb (p := p + 1 + 1 + 1) (a := 256) (by omega) (by omega)
        obtain ⟨v4, _, _, t4⟩ := pick_ev hb (p := p + 1 + 1 + 1 + 1) (a := 256) (by omega) (by omega)
        exact ⟨_, _, by omega, by omega, Tells.bind t0 (Tells.neg h0 (Tells.neg h1 (Tells.pos h2 (Tells.bind t1 (Tells.bind t2 (Tells.bind t3 (Tells.bind t4 (Tells.now _))))))))⟩
      · obtain ⟨v1, _, _, t1⟩ := pick_ev hb (p := p + 1) (a := 256) (by omega) (by omega)
        exact ⟨_, _, by omega, by omega, Tells.bind t0 (Tells.neg h0 (Tells.neg h1 (Tells.neg h2 (Tells.bind t1 (Tells.now _)))))⟩
theorem root_ev {b : List Int} (hb : Bytes b) {p : Int} (hp : 0 ≤ p) (hp' : p ≤ 100000000) : ∃ v p', p ≤ p' ∧ p' ≤ p + 10 ∧ Tells (fun k => spec_l20Root.f k b p) (v, p') := by
  obtain ⟨v1, _, _, t1⟩ := pick_ev hb (a := 9) hp (by omega)
  obtain ⟨v2, _, _, t2⟩ := pick_ev hb (p := p + 1) (a := 12) (by omega) (by omega)
  obtain ⟨v3, _, _, t3⟩ := pick_ev hb (p := p + 1 + 1) (a := 90) (by omega) (by omega)
  obtain ⟨v4, _, _, t4⟩ := pick_ev hb (p := p + 1 + 1 + 1) (a := 40) (by omega) (by omega)
  exact ⟨_, _, by omega, by omega, Tells.bind t1 (Tells.bind t2 (Tells.bind t3 (Tells.bind t4 (Tells.now _))))⟩
end Go.Proofs.Ytpgkpahhohfmhaa.P

namespace Go.Proofs.Ytpgkpahhohfmhaa.Pure
open OM Go.RowKit Go.Proofs.Ytpgkpahhohfmhaa.P Go.Proofs.YtpgkpahhohfmhaaW.PrintWords Go.Proofs.YtpgkpahhohfmhaaW.PrintLast Go.Proofs.YtpgkpahhohfmhaaW.PrintMore
set_option linter.unusedVariables false

theorem draw {l : List Int} (h : ∀ x ∈ l, (Lit.int .u8 x).wf = true) : ∃ n a : Int, Tells (fun k => spec_DrawOrdInBase.f k l) (n, a) := by
  obtain ⟨b, hb, ho⟩ := open_ev h
  obtain ⟨v1, p1, _, _, t1⟩ := count_ev hb (p := 0) (by omega) (by omega)
  obtain ⟨v0, _, _, t0⟩ := pick_ev hb (p := p1) (a := 30) (by omega) (by omega)
  obtain ⟨v2, p2, _, _, t2⟩ := root_ev hb (p := p1 + 1) (by omega) (by omega)
  exact ⟨_, _, Tells.bind (Tells.const ho) (Tells.bind t1 (Tells.bind t0 (Tells.bind t2 (Tells.now _))))⟩
theorem FnOrdInBase : laws_FnOrdInBase.Pure := by
  intro l m h1 h2 h3 h4 h5 h6
  refine Tells.rounds (?_ : Tells (fun k => laws_FnOrdInBase.f k l m) true)
  have far : Tells (fun k => laws_FnOrdInBase.j0 k l m true) true := by
    refine Tells.step (fun k => by rw [laws_FnOrdInBase.j0]) ?_
    exact Tells.pos rfl (Tells.now _)
  by_cases h : (l.length : Int) > 1048576
  · exact Tells.pos h far
  · refine Tells.neg h ?_
    by_cases h' : (m.length : Int) > 1048576
    · rw [decide_eq_true h']; exact far
    · rw [decide_eq_false h']
      refine Tells.step (fun k => by rw [laws_FnOrdInBase.j0]) ?_
      refine Tells.neg (by simp) ?_
      obtain ⟨n, b, hd⟩ := draw h3
      obtain ⟨n', b', hd'⟩ := draw h6
      refine Tells.bind hd ?_
      by_cases hin : InB b n
      · obtain ⟨x, hx, ts, ti⟩ := both_OrdInBase' hin
        obtain ⟨i1, i2, i3, i4⟩ := hin
        have hfl := fit_length x
        refine Tells.bind ti ?_
        refine Tells.bind ts ?_
        refine Tells.bind (sameInts_ev (by omega)) ?_
        refine Tells.pos (by simp) ?_
        by_cases hz : size x ≤ 60
        · have ef : fit x = row x := by unfold fit; rw [if_pos hz]
          have hV := IB_vd hx i4 hz
          have ho := ordOf_row hV
          have hl := row_length x
          have hp := size_pos x
          rw [ef]
          refine Tells.neg (by omega) ?_
          refine Tells.bind hd' ?_
          -- what is asked of the first one, and then of both
          have rest : ∀ (r : List Int) (w : Int), (r = [] ∨ compv (row x) r = w) → Tells (fun k => laws_FnOrdInBase.j2 k n b (row x) r w) true := by
            intro r w hr
            refine Tells.step (fun k => by rw [laws_FnOrdInBase.j2]) ?_
            refine Tells.bind implValid_ev ?_
            refine Tells.pos (by rw [ho]; rfl) ?_
            refine Tells.bind implBaseOk_ev ?_
            refine Tells.pos (by unfold basev; rw [ho]; simp only [decide_eq_true_eq]; exact ⟨i3, i4, hx.most⟩) ?_
            refine Tells.bind implSlowValue_ev ?_
            refine Tells.pos (by rw [slowValv_some ho, if_pos (by omega)]; unfold slowv; rw [hx.val, if_neg (by omega)]) ?_
            by_cases hr0 : r = []
            · subst hr0; exact Tells.pos rfl (Tells.now _)
            · refine Tells.neg (by have := List.length_pos_iff.2 hr0; omega) ?_
              refine Tells.bind implOrdCompare_ev ?_
              rcases hr with hr | hr
              · exact absurd hr hr0
              · rw [hr]; exact Tells.to (Tells.now _) (by simp)
          have both_ : ∀ (r : List Int), Tells (fun k => impl_OrdInBase.f k n' b) r → (r = [] ∨ compv (row x) r = if n < n' then -1 else if n' < n then 1 else 0) → Tells (fun k => (impl_OrdInBase.f k n' b).bind fun t347 => (if n < n' then (laws_FnOrdInBase.j1 k n b (row x) n' t347 (-1)) else (laws_FnOrdInBase.j1 k n b (row x) n' t347 0))) true := by
            intro r tr hr
            refine Tells.bind tr ?_
            by_cases c1 : n < n'
            · rw [if_pos c1] at hr
              refine Tells.pos c1 ?_
              refine Tells.step (fun k => by rw [laws_FnOrdInBase.j1]) ?_
              exact Tells.neg (by omega) (rest r (-1) hr)
            · rw [if_neg c1] at hr
              refine Tells.neg c1 ?_
              refine Tells.step (fun k => by rw [laws_FnOrdInBase.j1]) ?_
              by_cases c2 : n > n'
              · rw [if_pos c2] at hr
                exact Tells.pos c2 (rest r 1 hr)
              · rw [if_neg c2] at hr
                exact Tells.neg c2 (rest r 0 hr)
          by_cases hin' : InB b n'
          · obtain ⟨y, hy, _, ty⟩ := both_OrdInBase' hin'
            refine both_ (fit y) ty ?_
            by_cases hz' : size y ≤ 60
            · right
              have ef' : fit y = row y := by unfold fit; rw [if_pos hz']
              rw [ef', compv_some ho (ordOf_row (IB_vd hy i4 hz')), val_cmp (n := b) (by omega) hx.nf hy.nf hx.most hy.most, hx.val, hy.val]
            · left; unfold fit; rw [if_neg hz']
          · exact both_ [] (implInBase_no hin') (.inl rfl)
        · have ef : fit x = [] := by unfold fit; rw [if_neg hz]
          rw [ef]
          exact Tells.pos rfl (Tells.bind alive_ev (Tells.now _))
      · refine Tells.bind (implInBase_no hin) ?_
        refine Tells.bind (specInBase_no hin) ?_
        refine Tells.bind (sameInts_ev (by simp)) ?_
        refine Tells.pos (by simp) ?_
        exact Tells.pos rfl (Tells.bind alive_ev (Tells.now _))
end Go.Proofs.Ytpgkpahhohfmhaa.Pure

