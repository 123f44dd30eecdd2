/- Part 8 of 8 of what the laws of layer 1 share: contracts of functions of the program, each for every argument of its description; no condition beyond it. -/
import Derived.Test.YtgnepgenefcnpaaGreatDoorBeG
set_option linter.unusedVariables false
set_option linter.unusedSimpArgs false
namespace Go.Am
theorem sgn3 (x : Rat) : (x < 0 ∧ sgn x = -1) ∨ (x = 0 ∧ sgn x = 0) ∨ (0 < x ∧ sgn x = 1) := by unfold sgn; grind
theorem cmp3 (x y : Rat) : (x < y ∧ cmpq x y = -1) ∨ (x = y ∧ cmpq x y = 0) ∨ (y < x ∧ cmpq x y = 1) := by unfold cmpq; grind
def sg2 (x : Rat) (t : Int) (D : Rat) : Int := if sgn x * t ≥ 0 then (if sgn x ≠ 0 then sgn x else t) else sgn x * cmpq (x * x) D
def tOf (b d : Rat) : Int := sgn b * sgn d
def sgS (a b d : Rat) : Int := sg2 a (tOf b d) (b * b * d)
theorem tOf3 (b d : Rat) : tOf b d = -1 ∨ tOf b d = 0 ∨ tOf b d = 1 := by
  unfold tOf
  rcases sgn3 b with ⟨_, h⟩ | ⟨_, h⟩ | ⟨_, h⟩ <;> rcases sgn3 d with ⟨_, k⟩ | ⟨_, k⟩ | ⟨_, k⟩ <;> rw [h, k] <;> decide
theorem sg23 (x : Rat) {t : Int} (ht : t = -1 ∨ t = 0 ∨ t = 1) (D : Rat) : sg2 x t D = -1 ∨ sg2 x t D = 0 ∨ sg2 x t D = 1 := by
  unfold sg2
  rcases sgn3 x with ⟨_, h⟩ | ⟨_, h⟩ | ⟨_, h⟩ <;> rcases ht with rfl | rfl | rfl <;> rcases cmp3 (x * x) D with ⟨_, k⟩ | ⟨_, k⟩ | ⟨_, k⟩ <;> rw [h, k] <;> decide
theorem sgS3 (a b d : Rat) : sgS a b d = -1 ∨ sgS a b d = 0 ∨ sgS a b d = 1 := sg23 a (tOf3 b d) _
theorem sign_p (a b d : Rat) (ha : sz a ≤ 10000000000) (hb : sz b ≤ 10000000000) (hd : sz d ≤ 10000000000) : m_Surd_sign a b d = some (sgS a b d) := by
  haveI : Bd a 10000000000 := ⟨ha⟩
  haveI : Bd b 10000000000 := ⟨hb⟩
  haveI : Bd d 10000000000 := ⟨hd⟩
  have e1 : q_cmp (a * a) (b * b * d) = some (cmpq (a * a) (b * b * d)) := q_cmpB (by decide) (by decide)
  unfold m_Surd_sign sgS sg2 tOf
  simp only [q_sign, Option.bind_some, q_mulB, Nat.reduceAdd, Nat.reduceLeDiff, e1]
  rcases sgn3 a with ⟨_, h⟩ | ⟨_, h⟩ | ⟨_, h⟩ <;> rcases sgn3 b with ⟨_, i⟩ | ⟨_, i⟩ | ⟨_, i⟩ <;> rcases sgn3 d with ⟨_, j⟩ | ⟨_, j⟩ | ⟨_, j⟩ <;> rcases cmp3 (a * a) (b * b * d) with ⟨_, k⟩ | ⟨_, k⟩ | ⟨_, k⟩ <;> rw [h, i, j, k] <;> decide
def cmS (a b d a' b' d' : Rat) : Int :=
  if sgS (a - a') b d < tOf b' d' then -1 else if sgS (a - a') b d > tOf b' d' then 1 else if sgS (a - a') b d = 0 then 0
  else sgS (a - a') b d * sgS ((a - a') * (a - a') + b * b * d - b' * b' * d') ((a - a') * b + (a - a') * b) d
theorem cmp_p (a b d a' b' d' : Rat) (ha : sz a ≤ 100000000) (hb : sz b ≤ 100000000) (hd : sz d ≤ 100000000) (ha' : sz a' ≤ 100000000) (hb' : sz b' ≤ 100000000) (hd' : sz d' ≤ 100000000) : m_Surd_cmp a b d a' b' d' = some (cmS a b d a' b' d') := by
  haveI : Bd a 100000000 := ⟨ha⟩
  haveI : Bd b 100000000 := ⟨hb⟩
  haveI : Bd d 100000000 := ⟨hd⟩
  haveI : Bd a' 100000000 := ⟨ha'⟩
  haveI : Bd b' 100000000 := ⟨hb'⟩
  haveI : Bd d' 100000000 := ⟨hd'⟩
  have s1 : sz (a - a') ≤ 10000000000 := Nat.le_trans (inferInstance : Bd (a - a') _).le (by decide)
  have s2 : sz ((a - a') * (a - a') + b * b * d - b' * b' * d') ≤ 10000000000 := Nat.le_trans (inferInstance : Bd ((a - a') * (a - a') + b * b * d - b' * b' * d') _).le (by decide)
  have s3 : sz ((a - a') * b + (a - a') * b) ≤ 10000000000 := Nat.le_trans (inferInstance : Bd ((a - a') * b + (a - a') * b) _).le (by decide)
  have e1 := sign_p (a - a') b d s1 (by omega) (by omega)
  have e2 := sign_p ((a - a') * (a - a') + b * b * d - b' * b' * d') ((a - a') * b + (a - a') * b) d s2 s3 (by omega)
  have ew : ∀ x y : Int, (x = -1 ∨ x = 0 ∨ x = 1) → (y = -1 ∨ y = 0 ∨ y = 1) → IntKind.i64.wrap (x * y) = x * y := by
    intro x y hx hy
    rcases hx with rfl | rfl | rfl <;> rcases hy with rfl | rfl | rfl <;> decide
  unfold m_Surd_cmp cmS
  simp only [q_subB, Option.bind_some, e1, q_sign, q_mulB, q_addB, Nat.reduceAdd, Nat.reduceLeDiff, e2, ew _ _ (sgS3 (a - a') b d) (sgS3 _ _ d)]
  have et : IntKind.i64.wrap (sgn b' * sgn d') = tOf b' d' := by
    unfold tOf
    rcases sgn3 b' with ⟨_, h⟩ | ⟨_, h⟩ | ⟨_, h⟩ <;> rcases sgn3 d' with ⟨_, k⟩ | ⟨_, k⟩ | ⟨_, k⟩ <;> rw [h, k] <;> decide
  rw [et]
  simp only [decide_eq_true_eq, beq_iff_eq]
  split
  · rfl
  split
  · rfl
  split <;> rfl
theorem cm_q (a b d v : Rat) : cmS a b d v 0 0 = sgS (a - v) b d := by
  have h0 : tOf 0 0 = 0 := rfl
  unfold cmS
  rw [h0]
  rcases sgS3 (a - v) b d with h | h | h <;> rw [h] <;> simp
theorem D_nn {b d : Rat} (h : ¬ d < 0) : 0 ≤ b * b * d := Rat.mul_nonneg (sq_nn b) (by grind)
end Go.Am
namespace Go.Am
theorem mz {x y : Rat} (h : x * y = 0) : x = 0 ∨ y = 0 := by grind
theorem mp {x y : Rat} (h : 0 < x) (k : 0 < y) : 0 < x * y := Rat.mul_pos h k
theorem mpn {x y : Rat} (h : 0 < x) (k : y < 0) : x * y < 0 := by have := mp h (show 0 < -y by grind); grind
theorem mnp {x y : Rat} (h : x < 0) (k : 0 < y) : x * y < 0 := by have := mp (show 0 < -x by grind) k; grind
theorem mnn {x y : Rat} (h : x < 0) (k : y < 0) : 0 < x * y := by have := mp (show 0 < -x by grind) (show 0 < -y by grind); grind
theorem sqp {x : Rat} (h : x ≠ 0) : 0 < x * x := by
  rcases sgn3 x with ⟨k, _⟩ | ⟨k, _⟩ | ⟨k, _⟩
  · exact mnn k k
  · exact absurd k h
  · exact mp k k
theorem tot (x : Rat) : x ≤ 0 ∨ 0 ≤ x := by grind
theorem zero_iff {X Y r : Rat} (hr : ¬ r < 0) : sgS X Y r = 0 ↔ (X * X = Y * Y * r ∧ X * Y ≤ 0) := by
  unfold sgS sg2 tOf
  rcases sgn3 r with ⟨h1, k1⟩ | ⟨h1, k1⟩ | ⟨h1, k1⟩
  · exact absurd h1 hr
  · subst h1
    rw [k1]
    rcases sgn3 X with ⟨h2, k2⟩ | ⟨h2, k2⟩ | ⟨h2, k2⟩
    · rw [k2]
      have := mnn h2 h2
      simp
      intro; grind
    · rw [k2]; subst h2; simp
    · rw [k2]
      have := mp h2 h2
      simp
      intro; grind
  · rw [k1]
    rcases sgn3 X with ⟨h2, k2⟩ | ⟨h2, k2⟩ | ⟨h2, k2⟩ <;> rcases sgn3 Y with ⟨h3, k3⟩ | ⟨h3, k3⟩ | ⟨h3, k3⟩ <;> rw [k2, k3]
    · have := mnn h2 h3
      simp
      intro; grind
    · subst h3
      have := mnn h2 h2
      simp
      grind
    · have := mnp h2 h3
      rcases cmp3 (X * X) (Y * Y * r) with ⟨h4, k4⟩ | ⟨h4, k4⟩ | ⟨h4, k4⟩ <;> rw [k4] <;> simp <;> grind
    · subst h2
      have := mp (mnn h3 h3) h1
      simp
      grind
    · subst h2; subst h3; simp
    · subst h2
      have := mp (mp h3 h3) h1
      simp
      grind
    · have := mpn h2 h3
      rcases cmp3 (X * X) (Y * Y * r) with ⟨h4, k4⟩ | ⟨h4, k4⟩ | ⟨h4, k4⟩ <;> rw [k4] <;> simp <;> grind
    · subst h3
      have := mp h2 h2
      simp
      grind
    · have := mp h2 h3
      simp
      intro; grind
theorem zero_mul {X Y r a A B : Rat} (hr : ¬ r < 0) (ha : a ≠ 0) (hA : A = a * X) (hB : B = a * Y) : sgS A B r = 0 ↔ sgS X Y r = 0 := by
  rw [zero_iff hr, zero_iff hr]
  subst hA hB
  have h2 := sqp ha
  have e : a * X * (a * Y) = a * a * (X * Y) := by grind
  rw [e]
  constructor
  · rintro ⟨h, k⟩
    refine ⟨by grind, ?_⟩
    rcases Rat.not_lt.1 (fun hlt : 0 < X * Y => absurd (mp h2 hlt) (by grind)) with h
    exact h
  · rintro ⟨h, k⟩
    refine ⟨by grind, ?_⟩
    by_cases hz : X * Y = 0
    · rw [hz]; grind
    · have := mpn h2 (show X * Y < 0 by grind); grind
theorem zero_sq {x q r : Rat} (hr : ¬ r < 0) : sgS (x * x + q * q * r) (x * q + x * q) r = 0 ↔ sgS x q r = 0 := by
  rw [zero_iff hr, zero_iff hr]
  have e : (x * x + q * q * r) * (x * x + q * q * r) - (x * q + x * q) * (x * q + x * q) * r = (x * x - q * q * r) * (x * x - q * q * r) := by grind
  constructor
  · rintro ⟨h, k⟩
    have h1 : (x * x - q * q * r) * (x * x - q * q * r) = 0 := by grind
    have h2 : x * x = q * q * r := by rcases mz h1 with h | h <;> grind
    refine ⟨h2, Rat.not_lt.1 fun hlt => ?_⟩
    have hx : x ≠ 0 := by rintro rfl; grind
    have h4 := sqp hx
    have h5 := mp h4 hlt
    have e2 : (x * x + q * q * r) * (x * q + x * q) = 4 * (x * x * (x * q)) := by rw [← h2]; grind
    rw [e2] at k
    clear h h1 e
    generalize x * x * (x * q) = u at *
    grind
  · rintro ⟨h, k⟩
    refine ⟨by grind, ?_⟩
    have h0 := sq_nn x
    have e2 : (x * x + q * q * r) * (x * q + x * q) = 4 * (x * x * (x * q)) := by grind
    by_cases hz : x * q = 0
    · grind
    · by_cases hx : x * x = 0
      · grind
      · have := mpn (show 0 < x * x by grind) (show x * q < 0 by grind)
        grind
theorem zero_ne {x q r Y2 : Rat} (hr : ¬ r < 0) (hY : 0 < Y2) (h : sgS (x * x + q * q * r - Y2) (x * q + x * q) r = 0) : sgS x q r ≠ 0 := by
  intro k
  rw [zero_iff hr] at h k
  obtain ⟨h1, h2⟩ := h
  obtain ⟨k1, k2⟩ := k
  have e1 : x * x + q * q * r - Y2 = 2 * (x * x) - Y2 := by grind
  rw [e1] at h1 h2
  have e2 : (2 * (x * x) - Y2) * (2 * (x * x) - Y2) - (x * q + x * q) * (x * q + x * q) * r = Y2 * (Y2 - 4 * (x * x)) := by grind
  have e3 : Y2 * (Y2 - 4 * (x * x)) = 0 := by grind
  have e4 : Y2 = 4 * (x * x) := by rcases mz e3 with h | h <;> grind
  have hx : 0 < x * x := by grind
  have e5 : (2 * (x * x) - Y2) * (x * q + x * q) = -(4 * (x * x * (x * q))) := by grind
  have hq : x * q ≠ 0 := by
    intro h
    rcases mz h with h | h
    · subst h; grind
    · subst h; grind
  have := mpn hx (show x * q < 0 by grind)
  grind
theorem zero_rat {x q r y : Rat} (hr : ¬ r < 0) : sgS (x * x + q * q * r - y * y) (x * q + x * q) r = 0 ↔ (sgS (x - y) q r = 0 ∨ sgS (x + y) q r = 0) := by
  rw [zero_iff hr, zero_iff hr, zero_iff hr]
  have e : (x * x + q * q * r - y * y) * (x * x + q * q * r - y * y) - (x * q + x * q) * (x * q + x * q) * r = ((x - y) * (x - y) - q * q * r) * ((x + y) * (x + y) - q * q * r) := by grind
  have key : ∀ y : Rat, (x - y) * (x - y) = q * q * r → (x * x + q * q * r - y * y) * (x * q + x * q) = 4 * (x * x * ((x - y) * q)) := by
    intro y h; grind
  have hxx := sq_nn x
  have fwd : ∀ y : Rat, (x * x + q * q * r - y * y) * (x * q + x * q) ≤ 0 → (x - y) * (x - y) = q * q * r → ((x - y) * q ≤ 0 ∨ ((x + y) * (x + y) = q * q * r ∧ (x + y) * q ≤ 0)) := by
    intro y h1 h2
    by_cases hx : x = 0
    · subst hx
      rcases tot (y * q) with h | h
      · right; constructor <;> grind
      · left; grind
    · left
      refine Rat.not_lt.1 fun hlt => ?_
      have := mp (sqp hx) hlt
      rw [key y h2] at h1
      grind
  have bwd : ∀ y : Rat, (x - y) * (x - y) = q * q * r → (x - y) * q ≤ 0 → (x * x + q * q * r - y * y) * (x * q + x * q) ≤ 0 := by
    intro y h1 h2
    rw [key y h1]
    by_cases hz : (x - y) * q = 0
    · rw [hz]; grind
    · by_cases hx : x * x = 0
      · rw [hx]; grind
      · have := mpn (show 0 < x * x by grind) (show (x - y) * q < 0 by grind); grind
  constructor
  · rintro ⟨h, k⟩
    have h1 : ((x - y) * (x - y) - q * q * r) * ((x + y) * (x + y) - q * q * r) = 0 := by grind
    rcases mz h1 with h | h
    · have h3 : (x - y) * (x - y) = q * q * r := by grind
      rcases fwd y k h3 with h4 | h4
      · exact .inl ⟨h3, h4⟩
      · exact .inr h4
    · have h3 : (x - -y) * (x - -y) = q * q * r := by grind
      rcases fwd (-y) (by grind) h3 with h4 | h4
      · exact .inr ⟨by grind, by grind⟩
      · exact .inl ⟨by grind, by grind⟩
  · rintro (⟨h1, h2⟩ | ⟨h1, h2⟩)
    · exact ⟨by grind, bwd y h1 h2⟩
    · have := bwd (-y) (by grind) (by grind)
      exact ⟨by grind, by grind⟩
end Go.Am
namespace Go.Am
theorem isqrt_sq (g : Nat) : isqrt (g * g) = g := by
  have h1 := isqrt_le (g * g)
  have h2 := isqrt_lt (g * g)
  have h3 : isqrt (g * g) ≤ g := Nat.not_lt.1 fun h => by
    have := Nat.mul_lt_mul'' h h
    omega
  have h4 : g < isqrt (g * g) + 1 := Nat.not_le.1 fun h => by
    have := Nat.mul_le_mul h h
    omega
  omega
theorem sq_of_mul {n m k : Nat} (h : n * m = k * k) (hc : Nat.Coprime n m) : ∃ g, n = g * g := by
  refine ⟨n.gcd k, ?_⟩
  have h1 : (n ^ 2).gcd (k ^ 2) = (n.gcd k) ^ 2 := Nat.pow_gcd_pow ..
  have h2 : (n * n).gcd (n * m) = n * n.gcd m := Nat.gcd_mul_left ..
  rw [hc] at h2
  rw [Nat.pow_two, Nat.pow_two, ← h, h2] at h1
  rw [← Nat.pow_two, ← h1, Nat.mul_one]
theorem issq_norm {d : Rat} (h0 : ¬ d < 0) (h : issq (((d.num : Int) : Rat) * (d.den : Rat))) : issq d := by
  have e : ((d.num : Int) : Rat) * (d.den : Rat) = ((d.num * (d.den : Int) : Int) : Rat) := by rw [Rat.intCast_mul]; rfl
  rw [e] at h
  obtain ⟨h1, _⟩ := h
  have e2 : ((d.num * (d.den : Int) : Int) : Rat).num.natAbs = d.num.natAbs * d.den := by
    rw [Rat.num_intCast, Int.natAbs_mul, Int.natAbs_natCast]
  rw [e2] at h1
  obtain ⟨g, hg⟩ := sq_of_mul h1.symm d.reduced
  obtain ⟨g', hg'⟩ := sq_of_mul (show d.den * d.num.natAbs = _ by rw [Nat.mul_comm]; exact h1.symm) d.reduced.symm
  refine ⟨?_, ?_⟩
  · rw [hg, isqrt_sq]
  · rw [hg', isqrt_sq]
theorem rt_sq {d : Rat} (h0 : ¬ d < 0) (h : issq d) : rt d * rt d = d := by
  obtain ⟨h1, h2⟩ := h
  unfold rt
  have hn : ((d.num.natAbs : Nat) : Int) = d.num := by
    have : 0 ≤ d.num := Rat.num_nonneg.2 (by grind)
    omega
  rw [Rat.mkRat_mul_mkRat, h2, ← Int.natCast_mul, h1, hn, Rat.mkRat_self]
theorem value_is {a b c p q r : Rat} (ha : sz a ≤ 256) (hb : sz b ≤ 256) (hc : sz c ≤ 256) (hp : sz p ≤ 10000000) (hq : sz q ≤ 10000000) (hr : sz r ≤ 10000000) (h0 : ¬ r < 0) :
    ∃ A B, m_l_value a b c p q r = some (A, B, r) ∧ A = a * (p * p + q * q * r) + b * p + c ∧ B = a * (2 * p * q) + b * q ∧ m_Surd_Sign A B r = some (sgS A B r, 0) := by
  haveI : Bd a 256 := ⟨ha⟩
  haveI : Bd b 256 := ⟨hb⟩
  haveI : Bd c 256 := ⟨hc⟩
  haveI : Bd p 10000000 := ⟨hp⟩
  haveI : Bd q 10000000 := ⟨hq⟩
  haveI : Bd r 10000000 := ⟨hr⟩
  have s1 : sz (a * (p * p + q * q * r) + b * p + c) ≤ 10000000000 := Nat.le_trans (inferInstance : Bd (a * (p * p + q * q * r) + b * p + c) _).le (by decide)
  have s2 : sz (a * (2 * p * q) + b * q) ≤ 10000000000 := Nat.le_trans (inferInstance : Bd (a * (2 * p * q) + b * q) _).le (by decide)
  refine ⟨_, _, ?_, rfl, rfl, ?_⟩
  · unfold m_l_value
    simp only [q_mulB, Option.bind_some, q_addB, q_two, Nat.reduceAdd, Nat.reduceLeDiff]
  · unfold m_Surd_Sign
    have hs : ¬ sgn r < 0 := by unfold sgn; grind
    simp only [q_sign, Option.bind_some, hs, decide_false, Bool.false_eq_true, if_false, sign_p _ _ r s1 s2 (Nat.le_trans hr (by decide))]
theorem Cmp_is {p q r p' q' r' : Rat} (hp : sz p ≤ 10000000) (hq : sz q ≤ 10000000) (hr : sz r ≤ 10000000) (h0 : ¬ r < 0) (hp' : sz p' ≤ 10000000) (hq' : sz q' ≤ 10000000) (hr' : sz r' ≤ 10000000) (h0' : ¬ r' < 0) :
    m_Surd_Cmp p q r p' q' r' = some (cmS p q r p' q' r', 0) := by
  have hs : ¬ sgn r < 0 := by unfold sgn; grind
  have hs' : ¬ sgn r' < 0 := by unfold sgn; grind
  unfold m_Surd_Cmp
  simp only [q_sign, Option.bind_some, hs, hs', decide_false, Bool.false_eq_true, if_false, cmp_p p q r p' q' r' (by omega) (by omega) (by omega) (by omega) (by omega) (by omega)]
theorem cmS0 {a b d a' b' d' : Rat} : cmS a b d a' b' d' = 0 ↔ (sgS (a - a') b d = tOf b' d' ∧ (sgS (a - a') b d = 0 ∨ sgS ((a - a') * (a - a') + b * b * d - b' * b' * d') ((a - a') * b + (a - a') * b) d = 0)) := by
  unfold cmS
  generalize sgS ((a - a') * (a - a') + b * b * d - b' * b' * d') ((a - a') * b + (a - a') * b) d = w
  generalize sgS (a - a') b d = u
  generalize tOf b' d' = t
  by_cases h1 : u < t
  · rw [if_pos h1]; constructor
    · intro h; omega
    · intro h; omega
  · rw [if_neg h1]
    by_cases h2 : u > t
    · rw [if_pos h2]; constructor
      · intro h; omega
      · intro h; omega
    · rw [if_neg h2]
      have : u = t := by omega
      by_cases h3 : u = 0
      · rw [if_pos h3]; simp [this, h3]
        omega
      · rw [if_neg h3]
        constructor
        · intro h
          rcases Int.mul_eq_zero.1 h with h | h
          · exact absurd h h3
          · exact ⟨this, .inr h⟩
        · rintro ⟨_, h | h⟩
          · exact absurd h h3
          · rw [h]; simp
theorem sgS_q (x : Rat) : sgS x 0 0 = sgn x := by
  unfold sgS sg2 tOf
  have z00 : sgn 0 = 0 := rfl
  rcases sgn3 x with ⟨_, h⟩ | ⟨_, h⟩ | ⟨_, h⟩ <;> rw [h] <;> simp [z00]
structure RootOk (a b c : Rat) (x : Rat × Rat × Rat) : Prop where
  z1 : sz x.1 ≤ 10000000
  z2 : sz x.2.1 ≤ 10000000
  z3 : sz x.2.2 ≤ 10000000
  nn : ¬ x.2.2 < 0
  nf : m_Surd_Normal x.1 x.2.1 x.2.2 = some (x, 0)
  zero : a * (x.1 * x.1 + x.2.1 * x.2.1 * x.2.2) + b * x.1 + c = 0 ∧ a * (2 * x.1 * x.2.1) + b * x.2.1 = 0
theorem nf_q (v : Rat) : m_Surd_Normal v 0 0 = some ((v, 0, 0), 0) := by
  have z00 : sgn 0 = 0 := rfl
  unfold m_Surd_Normal m_Surd_normal
  simp [q_sign, z00]
theorem rat_nd (d : Rat) : d = ((d.num : Int) : Rat) / (d.den : Rat) := by
  have := Rat.mkRat_self d
  rw [Rat.mkRat_eq_div] at this
  exact this.symm
theorem normX_irr {a b d : Rat} (ha : sz a ≤ 1000000) (hb1 : sz b ≤ 1000000) (hd1 : sz d ≤ 1000000) (h0 : ¬ d < 0) (hb : b ≠ 0) (hq : ¬ issq d) :
    sz a ≤ 10000000 ∧ sz (b / (d.den : Rat)) ≤ 10000000 ∧ sz (((d.num : Int) : Rat) * (d.den : Rat)) ≤ 10000000 ∧ ¬ ((d.num : Int) : Rat) * (d.den : Rat) < 0 ∧
    m_Surd_Normal a (b / (d.den : Rat)) (((d.num : Int) : Rat) * (d.den : Rat)) = some ((a, b / (d.den : Rat), ((d.num : Int) : Rat) * (d.den : Rat)), 0) ∧
    (b / (d.den : Rat)) * (b / (d.den : Rat)) * (((d.num : Int) : Rat) * (d.den : Rat)) = b * b * d ∧ 0 < ((d.num : Int) : Rat) * (d.den : Rat) ∧ (0 : Rat) < (d.den : Rat) := by
  haveI : Bd a 1000000 := ⟨ha⟩
  haveI : Bd b 1000000 := ⟨hb1⟩
  haveI : Bd d 1000000 := ⟨hd1⟩
  have hden : (0 : Rat) < (d.den : Rat) := by
    have := d.den_pos
    exact_mod_cast this
  have hd : d = ((d.num : Int) : Rat) / (d.den : Rat) := rat_nd d
  have hd0 : d ≠ 0 := by
    rintro rfl
    exact hq ⟨by decide +kernel, by decide +kernel⟩
  have hnum : 0 < d.num := by
    have h1 : 0 ≤ d.num := Rat.num_nonneg.2 (by grind)
    have h2 : d.num ≠ 0 := fun h => hd0 (Rat.num_eq_zero.1 h)
    omega
  have hn : (0 : Rat) < ((d.num : Int) : Rat) := by exact_mod_cast hnum
  have hR := mp hn hden
  have s2 : sz (b / (d.den : Rat)) ≤ 10000000 := Nat.le_trans (inferInstance : Bd (b / (d.den : Rat)) _).le (by decide)
  have s3 : sz (((d.num : Int) : Rat) * (d.den : Rat)) ≤ 10000000 := Nat.le_trans (inferInstance : Bd (((d.num : Int) : Rat) * (d.den : Rat)) _).le (by decide)
  have s1 : sz a ≤ 10000000 := Nat.le_trans (inferInstance : Bd a _).le (by decide)
  have hb' : b / (d.den : Rat) ≠ 0 := by
    intro h
    have : b / (d.den : Rat) * (d.den : Rat) = b := Rat.div_mul_cancel (by grind)
    rw [h] at this
    grind
  have hne : ¬ ((d.num : Int) : Rat) * (d.den : Rat) < 0 := by grind
  refine ⟨s1, s2, s3, hne, ?_, ?_, hR, hden⟩
  · obtain ⟨n1, _⟩ := normal_both a (b / (d.den : Rat)) (((d.num : Int) : Rat) * (d.den : Rat)) s1 s2 s3 hne hb'
    have hs : ¬ sgn (((d.num : Int) : Rat) * (d.den : Rat)) < 0 := by unfold sgn; grind
    have e : ((d.num : Int) : Rat) * (d.den : Rat) = ((d.num * (d.den : Int) : Int) : Rat) := by rw [Rat.intCast_mul]; rfl
    unfold m_Surd_Normal
    simp only [q_sign, Option.bind_some, hs, decide_false, Bool.false_eq_true, if_false, n1]
    unfold normX
    rw [if_neg (fun h => hq (issq_norm h0 h))]
    rw [e, Rat.den_intCast, Rat.num_intCast]
    have e1 : ((1 : Nat) : Rat) = 1 := rfl
    rw [e1]
    have e2 : b / (d.den : Rat) / 1 = b / (d.den : Rat) := by grind
    rw [e2, Rat.mul_one]
  · have e1 : b / (d.den : Rat) * (d.den : Rat) = b := Rat.div_mul_cancel (by grind)
    have e2 : d * (d.den : Rat) = ((d.num : Int) : Rat) := by
      have : ((d.num : Int) : Rat) / (d.den : Rat) * (d.den : Rat) = ((d.num : Int) : Rat) := Rat.div_mul_cancel (by grind)
      rw [← hd] at this
      exact this
    rw [← e2]
    generalize b / (d.den : Rat) = y at *
    rw [← e1]
    grind
end Go.Am
namespace Go.Am
end Go.Am
namespace Go.Am
end Go.Am
namespace Go.Am
open Go.RowKit
set_option maxRecDepth 100000
noncomputable section
end
end Go.Am
namespace Go.Am
theorem both_is (a1 a2 a3 a4 a5 a6 a7 a8 a9 : Int) (h1 : i64r a1) (h2 : i64r a2) (h3 : 0 ≤ a3 ∧ a3 ≤ 255) (h4 : i64r a4) (h5 : i64r a5) (h6 : 0 ≤ a6 ∧ a6 ≤ 255) (h7 : i64r a7) (h8 : i64r a8) (h9 : 0 ≤ a9 ∧ a9 ≤ 255) :
    ∃ x y z, m_l_both a1 a2 a3 a4 a5 a6 a7 a8 a9 = some ((x, y, z), (x, y, z), decide (sgn z ≥ 0)) ∧ sz x ≤ 256 ∧ sz y ≤ 256 ∧ sz z ≤ 256 := by
  obtain ⟨e1, s1⟩ := Both_is a1 a2 a3 h1 h2 h3
  obtain ⟨e2, s2⟩ := Both_is a4 a5 a6 h4 h5 h6
  obtain ⟨e3, s3⟩ := Both_is a7 a8 a9 h7 h8 h9
  refine ⟨_, _, _, ?_, s1, s2, s3⟩
  unfold m_l_both
  rw [e1, e2, e3]
  rfl
end Go.Am
