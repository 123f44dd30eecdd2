/- Part 7 of 8 of what the laws of layer 1 share: contracts of functions of the program, each for every argument of its description; no condition beyond it. -/
import Derived.Test.YtgnepgenefcnpaaGreatDoorBdF
set_option linter.unusedVariables false
set_option linter.unusedSimpArgs false
namespace Go.Am
theorem q_addB {a b : Rat} {i j : Nat} [Bd a i] [Bd b j] (h : i ≤ 400000000000) (k : j ≤ 400000000000) : q_add a b = some (a + b) := q_add_eq (Bd.qs h) (Bd.qs k)
theorem q_subB {a b : Rat} {i j : Nat} [Bd a i] [Bd b j] (h : i ≤ 400000000000) (k : j ≤ 400000000000) : q_sub a b = some (a - b) := q_sub_eq (Bd.qs h) (Bd.qs k)
theorem q_mulB {a b : Rat} {i j : Nat} [Bd a i] [Bd b j] (h : i ≤ 400000000000) (k : j ≤ 400000000000) : q_mul a b = some (a * b) := q_mul_eq (Bd.qs h) (Bd.qs k)
theorem q_overB {a b : Rat} {i j : Nat} [Bd a i] [Bd b j] (h0 : b ≠ 0) (h : i ≤ 400000000000) (k : j ≤ 400000000000) : q_over a b = some (a / b) := q_over_eq h0 (Bd.qs h) (Bd.qs k)
theorem q_cmpB {a b : Rat} {i j : Nat} [Bd a i] [Bd b j] (h : i ≤ 400000000000) (k : j ≤ 400000000000) : q_cmp a b = some (cmpq a b) := q_cmp_eq (Bd.qs h) (Bd.qs k)
theorem Same_B {a : Rat} {i : Nat} [Bd a i] (h : i ≤ 400000000000) : m_l_Same a a = some true := Same_self (Bd.qs h)
theorem q_one : q_int 1 = some 1 := by decide +kernel
theorem sq_nn (x : Rat) : 0 ≤ x * x := by
  by_cases h : 0 ≤ x
  · exact Rat.mul_nonneg h h
  · have h1 : 0 ≤ -x := by grind
    have h2 := Rat.mul_nonneg h1 h1
    grind
theorem sgn_eq0 {x : Rat} : sgn x = 0 ↔ x = 0 := by unfold sgn; grind
theorem ceil_sz (a : Rat) : sz ((a.ceil : Int) : Rat) ≤ sz a + 1 := by
  have h := sz_floor (-a)
  rw [sz_neg'] at h
  have e : a.ceil = -(-a).floor := by rw [Rat.ceil_eq_neg_floor_neg]
  rw [e]
  have e2 : ((-(-a).floor : Int) : Rat) = -((-a).floor : Rat) := by simp
  rw [e2, sz_neg']; exact h
theorem num_sz (a : Rat) : sz ((a.num : Int) : Rat) ≤ sz a + 1 := by
  have ha := sz_le.1 (Nat.le_refl (sz a))
  exact Nat.le_trans (sz_int _) (by omega)
instance Bd.num {a : Rat} {i : Nat} [h : Bd a i] : Bd ((a.num : Int) : Rat) (i + 1) := ⟨by have := num_sz a; have := h.le; omega⟩
theorem q_two : q_int 2 = some 2 := by decide +kernel
instance Bd.two : Bd 2 2 := ⟨by decide +kernel⟩
end Go.Am
namespace Go.Am
theorem sgn3 (x : Rat) : (x < 0 ∧ sgn x = -1) ∨ (x = 0 ∧ sgn x = 0) ∨ (0 < x ∧ sgn x = 1) := by unfold sgn; grind
theorem cmp3 (x y : Rat) : (x < y ∧ cmpq x y = -1) ∨ (x = y ∧ cmpq x y = 0) ∨ (y < x ∧ cmpq x y = 1) := by unfold cmpq; grind
def sg2 (x : Rat) (t : Int) (D : Rat) : Int := if sgn x * t ≥ 0 then (if sgn x ≠ 0 then sgn x else t) else sgn x * cmpq (x * x) D
def tOf (b d : Rat) : Int := sgn b * sgn d
def sgS (a b d : Rat) : Int := sg2 a (tOf b d) (b * b * d)
theorem tOf3 (b d : Rat) : tOf b d = -1 ∨ tOf b d = 0 ∨ tOf b d = 1 := by
  unfold tOf
  rcases sgn3 b with ⟨_, h⟩ | ⟨_, h⟩ | ⟨_, h⟩ <;> rcases sgn3 d with ⟨_, k⟩ | ⟨_, k⟩ | ⟨_, k⟩ <;> rw [h, k] <;> decide
theorem sg23 (x : Rat) {t : Int} (ht : t = -1 ∨ t = 0 ∨ t = 1) (D : Rat) : sg2 x t D = -1 ∨ sg2 x t D = 0 ∨ sg2 x t D = 1 := by
  unfold sg2
  rcases sgn3 x with ⟨_, h⟩ | ⟨_, h⟩ | ⟨_, h⟩ <;> rcases ht with rfl | rfl | rfl <;> rcases cmp3 (x * x) D with ⟨_, k⟩ | ⟨_, k⟩ | ⟨_, k⟩ <;> rw [h, k] <;> decide
theorem sgS3 (a b d : Rat) : sgS a b d = -1 ∨ sgS a b d = 0 ∨ sgS a b d = 1 := sg23 a (tOf3 b d) _
theorem sign_p (a b d : Rat) (ha : sz a ≤ 10000000000) (hb : sz b ≤ 10000000000) (hd : sz d ≤ 10000000000) : m_Surd_sign a b d = some (sgS a b d) := by
  haveI : Bd a 10000000000 := ⟨ha⟩
  haveI : Bd b 10000000000 := ⟨hb⟩
  haveI : Bd d 10000000000 := ⟨hd⟩
  have e1 : q_cmp (a * a) (b * b * d) = some (cmpq (a * a) (b * b * d)) := q_cmpB (by decide) (by decide)
  unfold m_Surd_sign sgS sg2 tOf
  simp only [q_sign, Option.bind_some, q_mulB, Nat.reduceAdd, Nat.reduceLeDiff, e1]
  rcases sgn3 a with ⟨_, h⟩ | ⟨_, h⟩ | ⟨_, h⟩ <;> rcases sgn3 b with ⟨_, i⟩ | ⟨_, i⟩ | ⟨_, i⟩ <;> rcases sgn3 d with ⟨_, j⟩ | ⟨_, j⟩ | ⟨_, j⟩ <;> rcases cmp3 (a * a) (b * b * d) with ⟨_, k⟩ | ⟨_, k⟩ | ⟨_, k⟩ <;> rw [h, i, j, k] <;> decide
theorem sign_r (a b d : Rat) (ha : sz a ≤ 10000000000) (hb : sz b ≤ 10000000000) (hd : sz d ≤ 10000000000) : m_r_Surd_Sign a b d = some (sgS a b d) := by
  haveI : Bd a 10000000000 := ⟨ha⟩
  haveI : Bd b 10000000000 := ⟨hb⟩
  haveI : Bd d 10000000000 := ⟨hd⟩
  have e1 : q_cmp (a * a) (b * b * d) = some (cmpq (a * a) (b * b * d)) := q_cmpB (by decide) (by decide)
  unfold m_r_Surd_Sign sgS sg2 tOf
  simp only [q_sign, Option.bind_some, q_mulB, Nat.reduceAdd, Nat.reduceLeDiff, e1]
  rcases sgn3 a with ⟨_, h⟩ | ⟨_, h⟩ | ⟨_, h⟩ <;> rcases sgn3 b with ⟨_, i⟩ | ⟨_, i⟩ | ⟨_, i⟩ <;> rcases sgn3 d with ⟨_, j⟩ | ⟨_, j⟩ | ⟨_, j⟩ <;> rcases cmp3 (a * a) (b * b * d) with ⟨_, k⟩ | ⟨_, k⟩ | ⟨_, k⟩ <;> rw [h, i, j, k] <;> decide
def cmS (a b d a' b' d' : Rat) : Int :=
  if sgS (a - a') b d < tOf b' d' then -1 else if sgS (a - a') b d > tOf b' d' then 1 else if sgS (a - a') b d = 0 then 0
  else sgS (a - a') b d * sgS ((a - a') * (a - a') + b * b * d - b' * b' * d') ((a - a') * b + (a - a') * b) d
theorem cmp_p (a b d a' b' d' : Rat) (ha : sz a ≤ 100000000) (hb : sz b ≤ 100000000) (hd : sz d ≤ 100000000) (ha' : sz a' ≤ 100000000) (hb' : sz b' ≤ 100000000) (hd' : sz d' ≤ 100000000) : m_Surd_cmp a b d a' b' d' = some (cmS a b d a' b' d') := by
  haveI : Bd a 100000000 := ⟨ha⟩
  haveI : Bd b 100000000 := ⟨hb⟩
  haveI : Bd d 100000000 := ⟨hd⟩
  haveI : Bd a' 100000000 := ⟨ha'⟩
  haveI : Bd b' 100000000 := ⟨hb'⟩
  haveI : Bd d' 100000000 := ⟨hd'⟩
  have s1 : sz (a - a') ≤ 10000000000 := Nat.le_trans (inferInstance : Bd (a - a') _).le (by decide)
  have s2 : sz ((a - a') * (a - a') + b * b * d - b' * b' * d') ≤ 10000000000 := Nat.le_trans (inferInstance : Bd ((a - a') * (a - a') + b * b * d - b' * b' * d') _).le (by decide)
  have s3 : sz ((a - a') * b + (a - a') * b) ≤ 10000000000 := Nat.le_trans (inferInstance : Bd ((a - a') * b + (a - a') * b) _).le (by decide)
  have e1 := sign_p (a - a') b d s1 (by omega) (by omega)
  have e2 := sign_p ((a - a') * (a - a') + b * b * d - b' * b' * d') ((a - a') * b + (a - a') * b) d s2 s3 (by omega)
  have ew : ∀ x y : Int, (x = -1 ∨ x = 0 ∨ x = 1) → (y = -1 ∨ y = 0 ∨ y = 1) → IntKind.i64.wrap (x * y) = x * y := by
    intro x y hx hy
    rcases hx with rfl | rfl | rfl <;> rcases hy with rfl | rfl | rfl <;> decide
  unfold m_Surd_cmp cmS
  simp only [q_subB, Option.bind_some, e1, q_sign, q_mulB, q_addB, Nat.reduceAdd, Nat.reduceLeDiff, e2, ew _ _ (sgS3 (a - a') b d) (sgS3 _ _ d)]
  have et : IntKind.i64.wrap (sgn b' * sgn d') = tOf b' d' := by
    unfold tOf
    rcases sgn3 b' with ⟨_, h⟩ | ⟨_, h⟩ | ⟨_, h⟩ <;> rcases sgn3 d' with ⟨_, k⟩ | ⟨_, k⟩ | ⟨_, k⟩ <;> rw [h, k] <;> decide
  rw [et]
  simp only [decide_eq_true_eq, beq_iff_eq]
  split
  · rfl
  split
  · rfl
  split <;> rfl
theorem cmp_r (a b d a' b' d' : Rat) (ha : sz a ≤ 100000000) (hb : sz b ≤ 100000000) (hd : sz d ≤ 100000000) (ha' : sz a' ≤ 100000000) (hb' : sz b' ≤ 100000000) (hd' : sz d' ≤ 100000000) : m_r_CmpSurd a b d a' b' d' = some (cmS a b d a' b' d') := by
  haveI : Bd a 100000000 := ⟨ha⟩
  haveI : Bd b 100000000 := ⟨hb⟩
  haveI : Bd d 100000000 := ⟨hd⟩
  haveI : Bd a' 100000000 := ⟨ha'⟩
  haveI : Bd b' 100000000 := ⟨hb'⟩
  haveI : Bd d' 100000000 := ⟨hd'⟩
  have s1 : sz (a - a') ≤ 10000000000 := Nat.le_trans (inferInstance : Bd (a - a') _).le (by decide)
  have s2 : sz ((a - a') * (a - a') + b * b * d - b' * b' * d') ≤ 10000000000 := Nat.le_trans (inferInstance : Bd ((a - a') * (a - a') + b * b * d - b' * b' * d') _).le (by decide)
  have s3 : sz ((a - a') * b + (a - a') * b) ≤ 10000000000 := Nat.le_trans (inferInstance : Bd ((a - a') * b + (a - a') * b) _).le (by decide)
  have e1 := sign_r (a - a') b d s1 (by omega) (by omega)
  have e2 := sign_r ((a - a') * (a - a') + b * b * d - b' * b' * d') ((a - a') * b + (a - a') * b) d s2 s3 (by omega)
  have k1 : (2 : Rat) * ((a - a') * b) = (a - a') * b + (a - a') * b := by grind
  have ew : ∀ x y : Int, (x = -1 ∨ x = 0 ∨ x = 1) → (y = -1 ∨ y = 0 ∨ y = 1) → IntKind.i64.wrap (x * y) = x * y := by
    intro x y hx hy
    rcases hx with rfl | rfl | rfl <;> rcases hy with rfl | rfl | rfl <;> decide
  unfold m_r_CmpSurd cmS
  simp only [q_subB, Option.bind_some, e1, q_sign, q_mulB, q_addB, q_two, Nat.reduceAdd, Nat.reduceLeDiff, k1, e2, ew _ _ (sgS3 (a - a') b d) (sgS3 _ _ d)]
  have et : IntKind.i64.wrap (sgn b' * sgn d') = tOf b' d' := by
    unfold tOf
    rcases sgn3 b' with ⟨_, h⟩ | ⟨_, h⟩ | ⟨_, h⟩ <;> rcases sgn3 d' with ⟨_, k⟩ | ⟨_, k⟩ | ⟨_, k⟩ <;> rw [h, k] <;> decide
  rw [et]
  simp only [decide_eq_true_eq, beq_iff_eq, bne_iff_ne, ne_eq]
  by_cases c1 : sgS (a - a') b d < tOf b' d'
  · rw [if_pos c1, if_pos (by omega), if_pos c1]
  · rw [if_neg c1, if_neg c1]
    by_cases c2 : sgS (a - a') b d > tOf b' d'
    · rw [if_pos c2, if_pos (by omega)]
    · rw [if_neg c2, if_neg (by omega)]
      split <;> rfl
theorem cm_q (a b d v : Rat) : cmS a b d v 0 0 = sgS (a - v) b d := by
  have h0 : tOf 0 0 = 0 := rfl
  unfold cmS
  rw [h0]
  rcases sgS3 (a - v) b d with h | h | h <;> rw [h] <;> simp
theorem sq_lt {x y : Rat} (h : 0 ≤ x) (k : x < y) : x * x < y * y := by
  have h1 := Rat.mul_lt_mul_of_pos_right k (show 0 < y by grind)
  have h2 := Rat.mul_le_mul_of_nonneg_left (Rat.le_of_lt k) h
  grind
theorem D_nn {b d : Rat} (h : ¬ d < 0) : 0 ≤ b * b * d := Rat.mul_nonneg (sq_nn b) (by grind)
theorem D_t {b d : Rat} (h : ¬ d < 0) : tOf b d = 0 ↔ b * b * d = 0 := by
  unfold tOf
  rcases sgn3 b with ⟨h1, k1⟩ | ⟨h1, k1⟩ | ⟨h1, k1⟩ <;> rcases sgn3 d with ⟨h2, k2⟩ | ⟨h2, k2⟩ | ⟨h2, k2⟩ <;> rw [k1, k2]
  · exact absurd h2 h
  · subst h2; simp
  · have : 0 < b * b * d := Rat.mul_pos (by have := sq_lt (x := 0) (y := -b) (by grind) (by grind); grind) h2
    constructor
    · intro e; cases e
    · intro e; grind
  · exact absurd h2 h
  · subst h2; simp
  · subst h1; simp
  · exact absurd h2 h
  · subst h2; simp
  · have : 0 < b * b * d := Rat.mul_pos (by have := sq_lt (x := 0) (y := b) (by grind) (by grind); grind) h2
    constructor
    · intro e; cases e
    · intro e; grind
theorem sg2_mono {x y : Rat} {t : Int} {D : Rat} (ht : t = -1 ∨ t = 0 ∨ t = 1) (hD : 0 ≤ D) (hxy : x < y) (h : 0 ≤ sg2 x t D) : sg2 y t D = 1 := by
  unfold sg2 at *
  rcases sgn3 x with ⟨x1, h1⟩ | ⟨x1, h1⟩ | ⟨x1, h1⟩ <;> rcases sgn3 y with ⟨y1, h2⟩ | ⟨y1, h2⟩ | ⟨y1, h2⟩ <;> rcases ht with rfl | rfl | rfl <;> rcases cmp3 (x * x) D with ⟨z1, k⟩ | ⟨z1, k⟩ | ⟨z1, k⟩ <;> rcases cmp3 (y * y) D with ⟨w1, m⟩ | ⟨w1, m⟩ | ⟨w1, m⟩ <;> rw [h1, k] at h <;> rw [h2, m] <;> first | decide | (exfalso; revert h; decide) | (exfalso; grind) | (exfalso; have := sq_lt (x := x) (y := y) (by grind) hxy; grind) | (exfalso; have := sq_lt (x := -y) (y := -x) (by grind) (by grind); grind)
theorem sgS_mono {x y b d : Rat} (hd : ¬ d < 0) (hxy : x < y) (h : 0 ≤ sgS x b d) : sgS y b d = 1 := sg2_mono (tOf3 b d) (D_nn hd) hxy h
theorem cm_r (a b d v : Rat) (hd : ¬ d < 0) : cmS v 0 0 a b d = -sgS (a - v) b d := by
  have h00 : ∀ x : Rat, sgS x 0 0 = sgn x := by
    intro x
    unfold sgS sg2
    have h0 : tOf 0 0 = 0 := rfl
    rw [h0]
    rcases sgn3 x with ⟨_, h1⟩ | ⟨_, h1⟩ | ⟨_, h1⟩ <;> rw [h1] <;> simp
  have hz : (v - a) * (v - a) + 0 * 0 * 0 - b * b * d = (v - a) * (v - a) - b * b * d := by grind
  have hz2 : (v - a) * 0 + (v - a) * 0 = 0 := by grind
  unfold cmS
  rw [h00, hz, hz2, h00]
  unfold sgS sg2
  have hD := D_nn (b := b) hd
  have ht0 := D_t (b := b) hd
  have e1 : (a - v) * (a - v) = (v - a) * (v - a) := by grind
  rw [e1]
  rcases tOf3 b d with t | t | t <;> rw [t] at ht0 ⊢ <;> rcases sgn3 (v - a) with ⟨x1, h1⟩ | ⟨x1, h1⟩ | ⟨x1, h1⟩ <;> rcases sgn3 (a - v) with ⟨y1, h2⟩ | ⟨y1, h2⟩ | ⟨y1, h2⟩ <;> rcases sgn3 ((v - a) * (v - a) - b * b * d) with ⟨z1, k⟩ | ⟨z1, k⟩ | ⟨z1, k⟩ <;> rcases cmp3 ((v - a) * (v - a)) (b * b * d) with ⟨w1, m⟩ | ⟨w1, m⟩ | ⟨w1, m⟩ <;> rw [h1, h2, k, m] <;> first | decide | (exfalso; grind)
end Go.Am
namespace Go.Am
theorem A_up {x D : Rat} {t : Int} (ht : t = -1 ∨ t = 0 ∨ t = 1) (hx : 0 < x) (h : D ≤ x * x) : 0 ≤ sg2 x t D := by
  unfold sg2
  rcases sgn3 x with ⟨x1, h1⟩ | ⟨x1, h1⟩ | ⟨x1, h1⟩ <;> rcases ht with rfl | rfl | rfl <;> rcases cmp3 (x * x) D with ⟨z1, k⟩ | ⟨z1, k⟩ | ⟨z1, k⟩ <;> rw [h1, k] <;> first | decide | (exfalso; grind)
theorem A_dn {x D : Rat} {t : Int} (ht : t = -1 ∨ t = 0 ∨ t = 1) (hx : x < 0) (h : D < x * x) : sg2 x t D = -1 := by
  unfold sg2
  rcases sgn3 x with ⟨x1, h1⟩ | ⟨x1, h1⟩ | ⟨x1, h1⟩ <;> rcases ht with rfl | rfl | rfl <;> rcases cmp3 (x * x) D with ⟨z1, k⟩ | ⟨z1, k⟩ | ⟨z1, k⟩ <;> rw [h1, k] <;> first | decide | (exfalso; grind)
theorem sq_le {x y : Rat} (h : 0 ≤ x) (k : x ≤ y) : x * x ≤ y * y := by
  have h1 := Rat.mul_le_mul_of_nonneg_right k (show 0 ≤ y by grind)
  have h2 := Rat.mul_le_mul_of_nonneg_left k h
  grind
theorem B_up {x c D : Rat} (hc : 0 ≤ c) (h : c * c ≤ D) (hx : -c ≤ x) : 0 ≤ sg2 x 1 D := by
  unfold sg2
  rcases sgn3 x with ⟨x1, h1⟩ | ⟨x1, h1⟩ | ⟨x1, h1⟩ <;> rcases cmp3 (x * x) D with ⟨z1, k⟩ | ⟨z1, k⟩ | ⟨z1, k⟩ <;> rw [h1, k] <;> first | decide | (exfalso; have := sq_le (x := -x) (y := c) (by grind) (by grind); grind)
theorem C_dn {x c D : Rat} (hc : 0 < c) (h : c * c ≤ D) (hx : x < c) : sg2 x (-1) D = -1 := by
  unfold sg2
  rcases sgn3 x with ⟨x1, h1⟩ | ⟨x1, h1⟩ | ⟨x1, h1⟩ <;> rcases cmp3 (x * x) D with ⟨z1, k⟩ | ⟨z1, k⟩ | ⟨z1, k⟩ <;> rw [h1, k] <;> first | decide | (exfalso; have := sq_lt (x := x) (y := c) (by grind) hx; grind)
def at' (a b d F : Rat) (m : Int) : Int := sgS (a - (m : Rat) / F) b d
theorem at_mono {a b d F : Rat} (hF : 0 < F) (hd : ¬ d < 0) {m n : Int} (h : m < n) (hn : 0 ≤ at' a b d F n) : at' a b d F m = 1 := by
  refine sgS_mono hd ?_ hn
  have h1 : (m : Rat) < (n : Rat) := by exact_mod_cast h
  have h2 : (m : Rat) / F < (n : Rat) / F := by
    rw [Rat.div_lt_iff hF, Rat.div_mul_cancel (by grind)]
    exact h1
  grind
theorem at_uniq {a b d F : Rat} (hF : 0 < F) (hd : ¬ d < 0) {m n : Int} (h1 : 0 ≤ at' a b d F m) (h2 : at' a b d F (m + 1) < 0) (k1 : 0 ≤ at' a b d F n) (k2 : at' a b d F (n + 1) < 0) : m = n := by
  rcases Int.lt_trichotomy m n with h | h | h
  · by_cases e : m + 1 = n
    · rw [e] at h2; omega
    · have := at_mono hF hd (show m + 1 < n by omega) k1
      omega
  · exact h
  · by_cases e : n + 1 = m
    · rw [e] at k2; omega
    · have := at_mono hF hd (show n + 1 < m by omega) h1
      omega
theorem x_of {a F : Rat} (hF : 0 < F) (m : Int) : (a - (m : Rat) / F) * F = a * F - (m : Rat) := by
  have := Rat.div_mul_cancel (a := (m : Rat)) (b := F) (by grind)
  grind
theorem lo_of {x F c : Rat} (hF : 0 < F) (h : c ≤ x * F) : c / F ≤ x := Rat.not_lt.1 (fun hc => by
  rw [Rat.lt_div_iff hF] at hc
  grind)
theorem hi_of {x F c : Rat} (hF : 0 < F) (h : x * F < c) : x < c / F := by rw [Rat.lt_div_iff hF]; exact h
theorem sq_div {r F : Rat} (hF : 0 < F) : (r / F) * (r / F) * (F * F) = r * r := by
  have := Rat.div_mul_cancel (a := r) (b := F) (by grind)
  grind
theorem le_of_mul {x y F : Rat} (hF : 0 < F) (h : x * (F * F) ≤ y * (F * F)) : x ≤ y := Rat.not_lt.1 (fun hc => by
  have := Rat.mul_lt_mul_of_pos_right hc (Rat.mul_pos hF hF)
  grind)
theorem lt_of_mul {x y F : Rat} (hF : 0 < F) (h : x * (F * F) < y * (F * F)) : x < y := Rat.not_le.1 (fun hc => by
  have := Rat.mul_le_mul_of_nonneg_right hc (Rat.le_of_lt (Rat.mul_pos hF hF))
  grind)
theorem at_lo {a b d F r : Rat} (hF : 0 < F) (hd : ¬ d < 0) (hr0 : 0 ≤ r) (hr1 : r * r ≤ b * b * d * F * F) (hr2 : b * b * d * F * F < (r + 1) * (r + 1)) {m : Int} (hm : (m : Rat) = ((a * F).floor : Rat) + (if sgn b < 0 then -r else r) - 2) : 0 ≤ at' a b d F m := by
  have hfl := Rat.floor_le (a * F)
  have hx := x_of (a := a) hF m
  unfold at' sgS
  generalize a - (m : Rat) / F = x at *
  have hDnn := D_nn (b := b) hd
  have hsq := sq_div (r := r) hF
  have hsq1 := sq_div (r := r + 1) hF
  generalize hD : b * b * d = D at *
  rcases sgn3 b with ⟨b1, hb⟩ | ⟨b1, hb⟩ | ⟨b1, hb⟩
  · rw [hb, if_pos (by decide)] at hm
    have h1 : (r + 2) ≤ x * F := by grind
    have h2 := lo_of hF h1
    have h3 : 0 < (r + 2) / F := by rw [Rat.lt_div_iff hF]; grind
    have h4 : D ≤ (r + 2) / F * ((r + 2) / F) := by
      apply le_of_mul hF
      rw [sq_div hF]
      have := sq_le (x := r + 1) (y := r + 2) (by grind) (by grind)
      grind
    exact A_up (tOf3 b d) (by grind) (by have := sq_le (Rat.le_of_lt h3) h2; grind)
  · rw [hb, if_neg (by decide)] at hm
    have hD0 : D = 0 := by rw [← hD, b1]; grind
    have hr : r = 0 := by
      rw [hD0] at hr1
      have : r * r ≤ 0 := by grind
      rcases Rat.le_iff_lt_or_eq.1 hr0 with h | h
      · have := Rat.mul_pos h h; grind
      · exact h.symm
    have h1 : 2 ≤ x * F := by grind
    have h2 := lo_of hF h1
    have h3 : 0 < 2 / F := by rw [Rat.lt_div_iff hF]; grind
    refine A_up (tOf3 b d) (by grind) ?_
    rw [hD0]
    exact sq_nn x
  · rw [hb, if_neg (by decide)] at hm
    have h1 : -r ≤ x * F := by grind
    have h2 : -(r / F) ≤ x := by
      have := lo_of hF h1
      have e : -r / F = -(r / F) := by grind
      rw [← e]; exact this
    have h3 : 0 ≤ r / F := Rat.not_lt.1 (fun hc => by rw [Rat.div_lt_iff hF] at hc; grind)
    have h4 : r / F * (r / F) ≤ D := by
      apply le_of_mul hF
      rw [hsq]; grind
    have ht : tOf b d = 0 ∨ tOf b d = 1 := by
      unfold tOf; rw [hb]
      rcases sgn3 d with ⟨d1, k⟩ | ⟨d1, k⟩ | ⟨d1, k⟩
      · exact absurd d1 hd
      · rw [k]; exact .inl rfl
      · rw [k]; exact .inr rfl
    rcases ht with ht | ht
    · have hD0 : D = 0 := by rw [← hD]; exact (D_t hd).1 ht
      have hr : r = 0 := by
        rw [hD0] at hr1
        have : r * r ≤ 0 := by grind
        rcases Rat.le_iff_lt_or_eq.1 hr0 with h | h
        · have := Rat.mul_pos h h; grind
        · exact h.symm
      have h5 : 2 ≤ x * F := by grind
      have h6 := lo_of hF h5
      have h7 : 0 < 2 / F := by rw [Rat.lt_div_iff hF]; grind
      exact A_up (tOf3 b d) (by grind) (by rw [hD0]; exact sq_nn x)
    · rw [ht]; exact B_up h3 h4 h2
theorem at_hi {a b d F r : Rat} (hF : 0 < F) (hd : ¬ d < 0) (hr0 : 0 ≤ r) (hr1 : r * r ≤ b * b * d * F * F) (hr2 : b * b * d * F * F < (r + 1) * (r + 1)) {m : Int} (hm : (m : Rat) = ((a * F).floor : Rat) + (if sgn b < 0 then -r else r) - 2 + 10) : at' a b d F m < 0 := by
  have hfl := Rat.lt_floor_add_one (a * F)
  rw [show (((a * F).floor + 1 : Int) : Rat) = ((a * F).floor : Rat) + 1 by simp] at hfl
  have hx := x_of (a := a) hF m
  unfold at' sgS
  generalize a - (m : Rat) / F = x at *
  have hDnn := D_nn (b := b) hd
  have hsq := sq_div (r := r) hF
  generalize hD : b * b * d = D at *
  have neg : ∀ c : Rat, 1 ≤ c → x * F < -(r + c) → sg2 x (tOf b d) D = -1 := by
    intro c hc h1
    have h2 := hi_of hF h1
    have h3 : 0 < (r + 1) / F := by rw [Rat.lt_div_iff hF]; grind
    have h4 : -(r + c) / F ≤ -((r + 1) / F) := by
      apply Rat.not_lt.1
      intro hh
      have e : -((r + 1) / F) = (-(r + 1)) / F := by grind
      rw [e, Rat.div_lt_iff hF, Rat.div_mul_cancel (by grind)] at hh
      grind
    have h5 : (r + 1) / F < -x := by grind
    have h6 := sq_lt (Rat.le_of_lt h3) h5
    have h7 : D < (r + 1) / F * ((r + 1) / F) := by
      apply lt_of_mul hF
      rw [sq_div hF]; grind
    exact A_dn (tOf3 b d) (by grind) (by grind)
  rcases sgn3 b with ⟨b1, hb⟩ | ⟨b1, hb⟩ | ⟨b1, hb⟩
  · rw [hb, if_pos (by decide)] at hm
    have h1 : x * F < r - 7 := by grind
    rcases Rat.le_iff_lt_or_eq.1 hr0 with h | h
    · have hX : 0 < D := by
        rcases Rat.le_iff_lt_or_eq.1 hDnn with h' | h'
        · exact h'
        · exfalso
          have := Rat.mul_pos h h
          rw [← h'] at hr1
          grind
      have ht : tOf b d = -1 := by
        unfold tOf; rw [hb]
        rcases sgn3 d with ⟨d1, k⟩ | ⟨d1, k⟩ | ⟨d1, k⟩
        · exact absurd d1 hd
        · exfalso; rw [d1] at hD; grind
        · rw [k]; rfl
      have h2 : x < r / F := hi_of hF (by grind)
      have h3 : 0 < r / F := by rw [Rat.lt_div_iff hF]; grind
      have h4 : r / F * (r / F) ≤ D := by
        apply le_of_mul hF
        rw [hsq]; grind
      rw [ht, C_dn h3 h4 h2]; decide
    · have := neg 7 (by grind) (by grind)
      rw [this]; decide
  · rw [hb, if_neg (by decide)] at hm
    have := neg 7 (by grind) (by grind)
    rw [this]; decide
  · rw [hb, if_neg (by decide)] at hm
    have := neg 7 (by grind) (by grind)
    rw [this]; decide
theorem at_ends {a b d F : Rat} (hF : 0 < F) (hd : ¬ d < 0) {B : Int} (hB : (if a * F < 0 then -(a * F) else a * F) + (2 + (if b < 0 then -b else b) * F * (d + 1)) ≤ (B : Rat)) : 0 ≤ at' a b d F (-B) ∧ at' a b d F B < 0 := by
  have hd0 : 0 ≤ d := by grind
  have hx1 := x_of (a := a) hF (-B)
  have hx2 := x_of (a := a) hF B
  obtain ⟨c, hc⟩ : ∃ c, c = (if b < 0 then -b else b) := ⟨_, rfl⟩
  have hc0 : 0 ≤ c := by rw [hc]; split <;> grind
  have hcb : c * c = b * b := by rw [hc]; split <;> grind
  rw [← hc] at hB
  have hDle : b * b * d ≤ c * (d + 1) * (c * (d + 1)) := by
    have h1 : d ≤ (d + 1) * (d + 1) := by have := sq_nn d; grind
    have h2 := Rat.mul_le_mul_of_nonneg_left h1 (sq_nn b)
    have e : c * (d + 1) * (c * (d + 1)) = c * c * ((d + 1) * (d + 1)) := by grind
    rw [e, hcb]; exact h2
  have hcd : 0 ≤ c * (d + 1) := Rat.mul_nonneg hc0 (by grind)
  have e1 : ((-B : Int) : Rat) = -(B : Rat) := by simp
  rw [e1] at hx1
  have eF : c * F * (d + 1) = c * (d + 1) * F := by grind
  rw [eF] at hB
  have two : 0 < 2 / F := by rw [Rat.lt_div_iff hF]; grind
  unfold at' sgS
  rw [e1]
  constructor
  · generalize a - (-(B : Rat)) / F = x at *
    have h1 : c * (d + 1) * F + 2 ≤ x * F := by
      have : -(a * F) ≤ (if a * F < 0 then -(a * F) else a * F) := by split <;> grind
      grind
    have h2 := lo_of hF h1
    have h3 : (c * (d + 1) * F + 2) / F = c * (d + 1) + 2 / F := by
      have := Rat.mul_div_cancel (a := c * (d + 1)) (b := F) (by grind)
      grind
    rw [h3] at h2
    have h4 : c * (d + 1) ≤ x := by grind
    exact A_up (tOf3 b d) (by grind) (by have := sq_le hcd h4; grind)
  · generalize a - (B : Rat) / F = x at *
    have h1 : x * F ≤ -(c * (d + 1) * F + 2) := by
      have : a * F ≤ (if a * F < 0 then -(a * F) else a * F) := by split <;> grind
      grind
    have h2 : c * (d + 1) * F + 2 ≤ (-x) * F := by grind
    have h2 := lo_of hF h2
    have h3 : (c * (d + 1) * F + 2) / F = c * (d + 1) + 2 / F := by
      have := Rat.mul_div_cancel (a := c * (d + 1)) (b := F) (by grind)
      grind
    rw [h3] at h2
    have h4 : c * (d + 1) < -x := by grind
    rw [A_dn (tOf3 b d) (by grind) (by have := sq_lt hcd h4; grind)]
    decide
end Go.Am
namespace Go.Am
theorem blen_dbl {x n : Nat} (h : blen x ≤ n) : blen (2 * x + 1) ≤ n + 2 := blen_small (by have := blen_lt_of h; rw [Nat.pow_succ, Nat.pow_succ]; omega)
theorem rootq_sz' (a : Rat) (k : Nat) (h : k ≤ 64) : sz (rootq a k) ≤ sz a + 1000 := by
  have h1 := sz_le.1 (Nat.le_refl (sz a))
  have h2 : blen (2 ^ (2 * k)) ≤ 129 := blen_pow (by omega)
  have h3 := blen_mul_le h1.1 h2
  have h4 : blen (a.num.natAbs * 2 ^ (2 * k) / a.den) ≤ sz a + 129 := Nat.le_trans (blen_mono (Nat.div_le_self _ _)) h3
  have h5 : blen (isqrt (a.num.natAbs * 2 ^ (2 * k) / a.den)) ≤ sz a + 129 := blen_isqrt (Nat.le_trans h4 (by omega))
  have h6 := sz_pow k
  have h7 : sz (((isqrt (a.num.natAbs * 2 ^ (2 * k) / a.den) : Nat) : Rat)) ≤ sz a + 130 := by
    have := sz_int ((isqrt (a.num.natAbs * 2 ^ (2 * k) / a.den) : Nat) : Int)
    rw [Int.natAbs_natCast] at this
    exact Nat.le_trans this (by omega)
  have h8 := sz_div' (((isqrt (a.num.natAbs * 2 ^ (2 * k) / a.den) : Nat) : Rat)) ((2 : Rat) ^ k)
  unfold rootq
  omega
theorem isqrt_lt' : ∀ x, x < (isqrt x + 1) * (isqrt x + 1)
  | 0 => by simp [isqrt]
  | x + 1 => by
    have h := isqrt_lt' x
    unfold isqrt
    split
    · have e : (isqrt x + 1 + 1) * (isqrt x + 1 + 1) = (isqrt x + 1) * (isqrt x + 1) + 2 * isqrt x + 3 := by grind
      omega
    · omega
theorem root0 (X : Rat) (hX : 0 ≤ X) : ∃ r : Nat, rootq X 0 = ((r : Int) : Rat) ∧ ((r : Int) : Rat) * ((r : Int) : Rat) ≤ X ∧ X < (((r : Int) : Rat) + 1) * (((r : Int) : Rat) + 1) := by
  obtain ⟨q, hq⟩ : ∃ q, q = X.num.natAbs / X.den := ⟨_, rfl⟩
  have hn : 0 ≤ X.num := Rat.num_nonneg.2 hX
  have hfl : X.floor = (q : Int) := by
    rw [Rat.floor_def, hq, Int.natCast_ediv, Int.natAbs_of_nonneg hn]
  have h1 := Rat.floor_le X
  have h2 := Rat.lt_floor_add_one X
  rw [hfl] at h1 h2
  refine ⟨isqrt q, ?_, ?_, ?_⟩
  · unfold rootq
    rw [hq]
    simp
    have e : ∀ y : Rat, y / 1 = y := by intro y; grind
    rw [e]; rfl
  · have h3 : ((isqrt q * isqrt q : Nat) : Int) ≤ (q : Int) := by have := isqrt_le q; omega
    have h4 : (((isqrt q : Nat) : Int) : Rat) * (((isqrt q : Nat) : Int) : Rat) ≤ ((q : Int) : Rat) := by exact_mod_cast h3
    grind
  · have h3 : (q : Int) + 1 ≤ (((isqrt q + 1) * (isqrt q + 1) : Nat) : Int) := by have := isqrt_lt' q; omega
    have h4 : (((q : Int) + 1 : Int) : Rat) ≤ ((((isqrt q : Nat) : Int) : Rat) + 1) * ((((isqrt q : Nat) : Int) : Rat) + 1) := by exact_mod_cast h3
    grind
theorem fineQ (k : Nat) (h : k ≤ 64) : (0 : Rat) < 2 ^ k ∧ sz ((2 : Rat) ^ k) ≤ 65 := ⟨Rat.pow_pos (by decide), Nat.le_trans (sz_pow k) (by omega)⟩
def encX (a b d F : Rat) (m : Int) : Rat × Rat := ((m : Rat) / F, if at' a b d F m = 0 then (m : Rat) / F else ((m : Rat) + 1) / F)
theorem Enclose_p (a b d : Rat) (k : Int) (ha : sz a ≤ 256) (hb : sz b ≤ 256) (hd : sz d ≤ 256) (h0 : ¬ d < 0) (hk0 : 0 ≤ k) (hk : k ≤ 64) :
    ∃ m : Int, 0 ≤ at' a b d (2 ^ k.toNat) m ∧ at' a b d (2 ^ k.toNat) (m + 1) < 0 ∧ sz ((m : Int) : Rat) ≤ 10000 ∧ m_Surd_Enclose a b d k = some ((encX a b d (2 ^ k.toNat) m).1, (encX a b d (2 ^ k.toNat) m).2, 0) := by
  obtain ⟨hF, hFs⟩ := fineQ k.toNat (by omega)
  have eF : q_fine k = some ((2 : Rat) ^ k.toNat) := must_eq ⟨hk0, by omega⟩
  generalize (2 : Rat) ^ k.toNat = F at *
  haveI : Bd a 256 := ⟨ha⟩
  haveI : Bd b 256 := ⟨hb⟩
  haveI : Bd d 256 := ⟨hd⟩
  haveI : Bd F 65 := ⟨hFs⟩
  have hX0 : 0 ≤ b * b * d * F * F := Rat.mul_nonneg (Rat.mul_nonneg (D_nn h0) (Rat.le_of_lt hF)) (Rat.le_of_lt hF)
  obtain ⟨r, er, hr1, hr2⟩ := root0 _ hX0
  have hXs : sz (b * b * d * F * F) ≤ 898 := (inferInstance : Bd (b * b * d * F * F) _).le
  have hrs : sz ((r : Int) : Rat) ≤ 1898 := by
    have := rootq_sz' (b * b * d * F * F) 0 (by omega)
    rw [er] at this; omega
  have eR : q_root (b * b * d * F * F) 0 = some (((r : Int) : Rat), 0) := by
    have : q_root (b * b * d * F * F) 0 = some (if (0 : Int) < 0 ∨ (64 : Int) < 0 then (0, 3) else if b * b * d * F * F < 0 then (0, 8) else (rootq (b * b * d * F * F) (0 : Int).toNat, 0)) := must_eq ⟨by unfold qs'; omega, by unfold i64r; omega⟩
    rw [this, if_neg (by omega), if_neg (by grind)]
    show some (rootq (b * b * d * F * F) 0, 0) = _
    rw [er]
  have hr0 : (0 : Rat) ≤ ((r : Int) : Rat) := by exact_mod_cast (by omega : (0 : Int) ≤ (r : Int))
  haveI : Bd ((r : Int) : Rat) 1898 := ⟨hrs⟩
  -- where the search begins
  obtain ⟨s, hs⟩ : ∃ s : Int, s = (if sgn b < 0 then -(r : Int) else (r : Int)) := ⟨_, rfl⟩
  have hsr : ((s : Int) : Rat) = (if sgn b < 0 then -((r : Int) : Rat) else ((r : Int) : Rat)) := by
    rw [hs]; split
    · simp
    · rfl
  have hss : sz ((s : Int) : Rat) ≤ 1898 := by
    rw [hsr]; split
    · rw [sz_neg']; exact hrs
    · exact hrs
  haveI : Bd ((s : Int) : Rat) 1898 := ⟨hss⟩
  obtain ⟨m0, hm0⟩ : ∃ m0 : Int, m0 = (a * F).floor + s - 2 := ⟨_, rfl⟩
  have em0 : ((a * F).floor : Rat) + (s : Rat) - 2 = (m0 : Rat) := by rw [hm0]; simp
  have hlo := at_lo (a := a) (m := m0) hF h0 hr0 hr1 hr2 (by rw [← em0, hsr])
  have hhi := at_hi (a := a) (m := m0 + 10) hF h0 hr0 hr1 hr2 (by rw [← hsr, em0]; simp)
  have hms : sz ((m0 : Int) : Rat) ≤ 3000 := by
    rw [← em0]
    exact Nat.le_trans (inferInstance : Bd (((a * F).floor : Rat) + (s : Rat) - 2) _).le (by decide)
  have hzs : ∀ j : Nat, j ≤ 12 → sz (((m0 + j : Int)) : Rat) ≤ 4000 := by
    intro j hj
    have e : ((m0 + j : Int) : Rat) = (m0 : Rat) + ((j : Int) : Rat) := by simp
    have h1 : sz ((j : Int) : Rat) ≤ 65 := sz_nat64 (by omega)
    have := sz_add (m0 : Rat) ((j : Int) : Rat)
    rw [e]; omega
  have cmpm : ∀ m : Int, sz ((m : Int) : Rat) ≤ 4000 → m_Surd_cmp a b d ((m : Rat) / F) 0 0 = some (at' a b d F m) := by
    intro m hm
    have h1 := sz_div' (m : Rat) F
    have h2 : sz (0 : Rat) = 1 := rfl
    rw [cmp_p a b d ((m : Rat) / F) 0 0 (by omega) (by omega) (by omega) (by omega) (by omega) (by omega), cm_q]
    rfl
  have hFn : F ≠ 0 := by grind
  have stepc : ∀ m : Int, sz ((m : Int) : Rat) ≤ 4000 → (q_add (m : Rat) 1 = some (((m + 1 : Int) : Rat)) ∧ q_over (m : Rat) F = some ((m : Rat) / F)) := by
    intro m hm
    haveI : Bd ((m : Int) : Rat) 4000 := ⟨hm⟩
    have e : ((m + 1 : Int) : Rat) = (m : Rat) + 1 := by simp
    exact ⟨by rw [e]; exact q_addB (by decide) (by decide), q_overB hFn (by decide) (by decide)⟩
  obtain ⟨z, hz, m, rfl, hm1, hm2, hm3⟩ : ∃ z, Loop (fun (s : Rat) => m_Surd_Enclose_l1 a b d F s) (m0 : Rat) = some z ∧ ∃ m : Int, z = (m : Rat) ∧ 0 ≤ at' a b d F m ∧ at' a b d F (m + 1) < 0 ∧ sz ((m : Int) : Rat) ≤ 4000 := by
    refine Loop_run (body := fun (s : Rat) => m_Surd_Enclose_l1 a b d F s) (m0 : Rat) (fun s => ∃ j : Nat, j ≤ 10 ∧ s = ((m0 + j : Int) : Rat) ∧ 0 ≤ at' a b d F (m0 + j)) (fun s => (m0 + 10 - s.floor).toNat) (fun z => ∃ m : Int, z = (m : Rat) ∧ 0 ≤ at' a b d F m ∧ at' a b d F (m + 1) < 0 ∧ sz ((m : Int) : Rat) ≤ 4000) ⟨0, by omega, by simp, by simpa using hlo⟩ ?_
    rintro s ⟨j, hj, rfl, hat⟩
    have hj10 : j < 10 := by
      rcases Nat.lt_or_ge j 10 with h | h
      · exact h
      · have : j = 10 := by omega
        subst this
        exact absurd hat (by have : (m0 + ((10 : Nat) : Int)) = m0 + 10 := rfl; rw [this]; omega)
    have e1 : (m0 + (j : Int)) + 1 = m0 + ((j + 1 : Nat) : Int) := by omega
    have hz0 := hzs j (by omega)
    have hz1 := hzs (j + 1) (by omega)
    have k1 := (stepc _ hz0).1
    rw [e1] at k1
    have k2 := (stepc _ hz1).2
    unfold m_Surd_Enclose_l1
    rw [q_one]
    simp only [Option.bind_some]
    rw [k1]
    simp only [Option.bind_some]
    rw [k2]
    simp only [Option.bind_some]
    rw [cmpm _ hz1]
    simp only [Option.bind_some]
    by_cases hc : at' a b d F (m0 + ((j + 1 : Nat) : Int)) ≥ 0
    · left
      rw [if_pos (decide_eq_true hc)]
      refine ⟨_, rfl, ⟨j + 1, by omega, rfl, hc⟩, ?_⟩
      rw [Rat.floor_intCast, Rat.floor_intCast]
      omega
    · right
      rw [if_neg (by simpa using hc)]
      exact ⟨_, rfl, _, rfl, hat, by rw [e1]; omega, hz0⟩
  refine ⟨m, hm1, hm2, by omega, ?_⟩
  have hneg : (if (decide (sgn b < 0)) = true then (q_neg ((r : Int) : Rat)).bind (fun v28 => some v28) else some ((r : Int) : Rat)) = some ((s : Int) : Rat) := by
    rw [hsr]
    by_cases h : sgn b < 0
    · rw [if_pos (decide_eq_true h), if_pos h]; rfl
    · rw [if_neg (by simpa using h), if_neg h]
  have hsd : ¬ sgn d < 0 := by unfold sgn; grind
  have g1 : q_mul b b = some (b * b) := q_mulB (by decide) (by decide)
  have g2 : q_mul (b * b) d = some (b * b * d) := q_mulB (by decide) (by decide)
  have g3 : q_mul (b * b * d) F = some (b * b * d * F) := q_mulB (by decide) (by decide)
  have g4 : q_mul (b * b * d * F) F = some (b * b * d * F * F) := q_mulB (by decide) (by decide)
  have g5 : q_mul a F = some (a * F) := q_mulB (by decide) (by decide)
  have g6 : q_floor (a * F) = some ((a * F).floor : Rat) := q_floor_eq (Bd.qs (n := 321) (by decide))
  have g7 : q_add ((a * F).floor : Rat) (s : Rat) = some (((a * F).floor : Rat) + (s : Rat)) := q_addB (by decide) (by decide)
  have g8 : q_sub (((a * F).floor : Rat) + (s : Rat)) 2 = some (m0 : Rat) := by rw [← em0]; exact q_subB (by decide) (by decide)
  unfold m_Surd_Enclose
  rw [show q_sign d = some (sgn d) from rfl, Option.bind_some, if_neg (by simpa using hsd), if_neg (by simpa using hk0), if_neg (by simpa using hk), eF, Option.bind_some, g1, Option.bind_some, g2, Option.bind_some, g3, Option.bind_some, g4, Option.bind_some, eR, Option.bind_some]
  dsimp only
  rw [show q_sign b = some (sgn b) from rfl, Option.bind_some, hneg, Option.bind_some, g5, Option.bind_some, g6, Option.bind_some, g7, Option.bind_some, q_two, Option.bind_some, g8, Option.bind_some, hz, Option.bind_some, (stepc m hm3).2, Option.bind_some, cmpm m hm3, Option.bind_some]
  unfold encX
  have hm1s : sz (((m + 1 : Int)) : Rat) ≤ 5000 := by
    have e : ((m + 1 : Int) : Rat) = (m : Rat) + 1 := by simp
    have h2 : sz (1 : Rat) = 1 := rfl
    have := sz_add (m : Rat) 1
    rw [e]; omega
  by_cases hz0 : at' a b d F m = 0
  · rw [if_pos (by simpa using hz0), if_pos hz0]
  · rw [if_neg (by simpa using hz0), if_neg hz0, q_one, Option.bind_some, (stepc m hm3).1, Option.bind_some]
    haveI : Bd (((m + 1 : Int)) : Rat) 5000 := ⟨hm1s⟩
    have g9 : q_over ((m + 1 : Int) : Rat) F = some (((m + 1 : Int) : Rat) / F) := q_overB hFn (by decide) (by decide)
    rw [g9, Option.bind_some]
    have e : ((m + 1 : Int) : Rat) = (m : Rat) + 1 := by simp
    rw [e]
theorem sm_le' {x y : Nat} (h : x ≤ y) (k : sm y) : sm x := Nat.le_trans (blen_mono h) k
theorem Enclose_r (a b d : Rat) (k : Int) (ha : sz a ≤ 256) (hb : sz b ≤ 256) (hd : sz d ≤ 256) (h0 : ¬ d < 0) (hk0 : 0 ≤ k) (hk : k ≤ 64) :
    ∃ m : Int, 0 ≤ at' a b d (2 ^ k.toNat) m ∧ at' a b d (2 ^ k.toNat) (m + 1) < 0 ∧ m_r_EncloseSurd a b d k = some (encX a b d (2 ^ k.toNat) m) := by
  obtain ⟨hF, hFs⟩ := fineQ k.toNat (by omega)
  have eF : r_fine k = some ((2 : Rat) ^ k.toNat) := must_eq ⟨hk0, by omega⟩
  generalize (2 : Rat) ^ k.toNat = F at *
  haveI : Bd a 256 := ⟨ha⟩
  haveI : Bd b 256 := ⟨hb⟩
  haveI : Bd d 256 := ⟨hd⟩
  haveI : Bd F 65 := ⟨hFs⟩
  have hFn : F ≠ 0 := by grind
  obtain ⟨x, hx⟩ : ∃ x, x = (if a * F < 0 then -(a * F) else a * F) + (2 + (if b < 0 then -b else b) * F * (d + 1)) := ⟨_, rfl⟩
  have hxs : sz x ≤ 2000 := by rw [hx]; exact Nat.le_trans (inferInstance : Bd ((if a * F < 0 then -(a * F) else a * F) + (2 + (if b < 0 then -b else b) * F * (d + 1))) _).le (by decide)
  obtain ⟨B, hB⟩ : ∃ B : Int, B = x.ceil := ⟨_, rfl⟩
  have hxB : x ≤ (B : Rat) := by
    rw [hB]
    have := Rat.floor_le (-x)
    rw [Rat.ceil_eq_neg_floor_neg]
    have e : ((-(-x).floor : Int) : Rat) = -((-x).floor : Rat) := by simp
    rw [e]; grind
  obtain ⟨hlo, hhi⟩ := at_ends (a := a) (b := b) hF h0 (B := B) (by rw [← hx]; exact hxB)
  have hBs : sz ((B : Int) : Rat) ≤ 2001 := by rw [hB]; have := ceil_sz x; omega
  have hBb : blen B.natAbs ≤ 2001 := blen_of_sz hBs
  have hBsm : sm (2 * B.natAbs + 1) := by
    have h1 : blen (2 * B.natAbs + 1) ≤ 2003 := blen_dbl hBb
    exact Nat.le_trans h1 (by omega)
  have zs : ∀ m : Int, m.natAbs ≤ B.natAbs → sz ((m : Int) : Rat) ≤ 2002 := fun m hm => Nat.le_trans (sz_int m) (by have := blen_mono hm; omega)
  have cmpm : ∀ m : Int, m.natAbs ≤ B.natAbs → m_r_CmpSurd ((m : Rat) / F) 0 0 a b d = some (-at' a b d F m) := by
    intro m hm
    have h1 := sz_div' (m : Rat) F
    have h3 := zs m hm
    have h2 : sz (0 : Rat) = 1 := rfl
    rw [cmp_r ((m : Rat) / F) 0 0 a b d (by omega) (by omega) (by omega) (by omega) (by omega) (by omega), cm_r a b d _ h0]
    rfl
  have ovm : ∀ m : Int, m.natAbs ≤ B.natAbs → q_over (m : Rat) F = some ((m : Rat) / F) := by
    intro m hm
    haveI : Bd ((m : Int) : Rat) 2002 := ⟨zs m hm⟩
    exact q_overB hFn (by decide) (by decide)
  have hB0 : 0 ≤ B := by
    have h1 : (0 : Rat) ≤ (if a * F < 0 then -(a * F) else a * F) := by split <;> grind
    have h2 : (0 : Rat) ≤ (if b < 0 then -b else b) * F * (d + 1) := Rat.mul_nonneg (Rat.mul_nonneg (by split <;> grind) (Rat.le_of_lt hF)) (by grind)
    have h3 : (0 : Rat) ≤ (B : Rat) := by grind
    exact_mod_cast h3
  obtain ⟨z, hz, m, rfl, hm1, hm2, hmB, hmB1⟩ : ∃ z, Loop (fun (s : Int × Int) => m_r_EncloseSurd_l1 a b d F s.1 s.2) (-B, B) = some z ∧ ∃ m : Int, z = (m, m + 1) ∧ 0 ≤ at' a b d F m ∧ at' a b d F (m + 1) < 0 ∧ m.natAbs ≤ B.natAbs ∧ (m + 1).natAbs ≤ B.natAbs := by
    refine Loop_run (body := fun (s : Int × Int) => m_r_EncloseSurd_l1 a b d F s.1 s.2) (-B, B) (fun s => -B ≤ s.1 ∧ s.1 < s.2 ∧ s.2 ≤ B ∧ 0 ≤ at' a b d F s.1 ∧ at' a b d F s.2 < 0) (fun s => (s.2 - s.1).toNat) (fun z => ∃ m : Int, z = (m, m + 1) ∧ 0 ≤ at' a b d F m ∧ at' a b d F (m + 1) < 0 ∧ m.natAbs ≤ B.natAbs ∧ (m + 1).natAbs ≤ B.natAbs) ?_ ?_
    · refine ⟨by simp, ?_, by simp, hlo, hhi⟩
      simp only
      rcases Int.lt_or_le (-B) B with h | h
      · exact h
      · have : B = 0 := by omega
        subst this
        rw [show (-0 : Int) = 0 from rfl] at hlo
        omega
    · rintro ⟨lo, hi⟩ ⟨i1, i2, i3, i4, i5⟩
      simp only at i1 i2 i3 i4 i5
      have e1 : r_zsub hi lo = some (hi - lo) := must_eq ⟨sm_le' (by omega) hBsm, sm_le' (by omega) hBsm⟩
      have e2 : r_zint 1 = some 1 := must_eq (by unfold i64r; omega)
      have e3 : r_zcmp (hi - lo) 1 = some (cmpz (hi - lo) 1) := must_eq ⟨sm_le' (by omega) hBsm, sm_small (by decide)⟩
      have ec : cmpz (hi - lo) 1 > 0 ↔ 1 < hi - lo := by unfold cmpz; split <;> (try split) <;> omega
      unfold m_r_EncloseSurd_l1
      simp only [e1, e2, e3, Option.bind_some]
      by_cases hg : 1 < hi - lo
      · left
        have e4 : r_zadd lo hi = some (lo + hi) := must_eq ⟨sm_le' (by omega) hBsm, sm_le' (by omega) hBsm⟩
        have e5 : r_zint 2 = some 2 := must_eq (by unfold i64r; omega)
        have e6 : r_zfloor (lo + hi) 2 = some ((lo + hi) / 2, (lo + hi) % 2) := must_eq ⟨by omega, sm_le' (by omega) hBsm, sm_small (by decide)⟩
        obtain ⟨mid, hmid⟩ : ∃ mid, mid = (lo + hi) / 2 := ⟨_, rfl⟩
        have hmB : mid.natAbs ≤ B.natAbs := by omega
        have e7 : r_whole mid = some (mid : Rat) := rfl
        rw [if_pos (decide_eq_true (ec.2 hg)), e4, Option.bind_some, e5, Option.bind_some, e6, Option.bind_some, ← hmid]
        dsimp only
        rw [e7, Option.bind_some, ovm mid hmB, Option.bind_some, show m_r_Rational ((mid : Rat) / F) = some ((mid : Rat) / F, 0, 0) from rfl, Option.bind_some]
        dsimp only
        rw [cmpm mid hmB, Option.bind_some]
        by_cases hc : -at' a b d F mid ≤ 0
        · rw [if_pos (decide_eq_true hc)]
          exact ⟨_, rfl, ⟨by simp only; omega, by simp only; omega, by simp only; omega, by simp only; omega, i5⟩, by simp only; omega⟩
        · rw [if_neg (by simpa using hc)]
          exact ⟨_, rfl, ⟨by simp only; omega, by simp only; omega, by simp only; omega, i4, by simp only; omega⟩, by simp only; omega⟩
      · right
        rw [if_neg (by rw [decide_eq_true_eq, ec]; exact hg)]
        have : hi = lo + 1 := by omega
        subst this
        exact ⟨_, rfl, lo, rfl, i4, i5, by omega, by omega⟩
  refine ⟨m, hm1, hm2, ?_⟩
  have g1 : q_mul a F = some (a * F) := q_mulB (by decide) (by decide)
  have gA : ∀ v : Rat, q_abs v = some (if v < 0 then -v else v) := fun _ => rfl
  have g3 : q_mul (if b < 0 then -b else b) F = some ((if b < 0 then -b else b) * F) := q_mulB (by decide) (by decide)
  have g4 : q_add d 1 = some (d + 1) := q_addB (by decide) (by decide)
  have g5 : q_mul ((if b < 0 then -b else b) * F) (d + 1) = some ((if b < 0 then -b else b) * F * (d + 1)) := q_mulB (by decide) (by decide)
  have g6 : q_add 2 ((if b < 0 then -b else b) * F * (d + 1)) = some (2 + (if b < 0 then -b else b) * F * (d + 1)) := q_addB (by decide) (by decide)
  have g7 : q_add (if a * F < 0 then -(a * F) else a * F) (2 + (if b < 0 then -b else b) * F * (d + 1)) = some x := by rw [hx]; exact q_addB (by decide) (by decide)
  have g8 : r_ceil x = some B := by rw [hB]; exact must_eq (by unfold qs'; omega)
  have g9 : r_zneg B = some (-B) := rfl
  unfold m_r_EncloseSurd
  rw [eF, Option.bind_some, g1, Option.bind_some, gA, Option.bind_some, q_two, Option.bind_some, gA, Option.bind_some, g3, Option.bind_some, q_one, Option.bind_some, g4, Option.bind_some, g5, Option.bind_some, g6, Option.bind_some, g7, Option.bind_some, g8, Option.bind_some, g9, Option.bind_some, Option.bind_some, hz, Option.bind_some]
  dsimp only
  rw [show r_whole m = some (m : Rat) from rfl, Option.bind_some, ovm m hmB, Option.bind_some, show m_r_Rational ((m : Rat) / F) = some ((m : Rat) / F, 0, 0) from rfl, Option.bind_some]
  dsimp only
  rw [cmpm m hmB, Option.bind_some]
  unfold encX
  by_cases hz0 : at' a b d F m = 0
  · rw [if_pos (by rw [hz0]; rfl), if_pos hz0]
  · rw [if_neg (by simpa using hz0), if_neg hz0, show r_whole (m + 1) = some ((m + 1 : Int) : Rat) from rfl, Option.bind_some, ovm (m + 1) hmB1, Option.bind_some]
    have e : ((m + 1 : Int) : Rat) = (m : Rat) + 1 := by simp
    rw [e]
end Go.Am
