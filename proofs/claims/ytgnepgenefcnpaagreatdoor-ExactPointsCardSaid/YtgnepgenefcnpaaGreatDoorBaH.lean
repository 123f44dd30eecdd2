/- Part 8 of 8 of what the laws of layer 1 share: contracts of functions of the program, each for every argument of its description; no condition beyond it. -/
import Derived.Test.YtgnepgenefcnpaaGreatDoorBaG
set_option linter.unusedVariables false
set_option linter.unusedSimpArgs false
namespace Go.Am
theorem q_addB {a b : Rat} {i j : Nat} [Bd a i] [Bd b j] (h : i ≤ 400000000000) (k : j ≤ 400000000000) : q_add a b = some (a + b) := q_add_eq (Bd.qs h) (Bd.qs k)
theorem q_subB {a b : Rat} {i j : Nat} [Bd a i] [Bd b j] (h : i ≤ 400000000000) (k : j ≤ 400000000000) : q_sub a b = some (a - b) := q_sub_eq (Bd.qs h) (Bd.qs k)
theorem q_mulB {a b : Rat} {i j : Nat} [Bd a i] [Bd b j] (h : i ≤ 400000000000) (k : j ≤ 400000000000) : q_mul a b = some (a * b) := q_mul_eq (Bd.qs h) (Bd.qs k)
theorem q_overB {a b : Rat} {i j : Nat} [Bd a i] [Bd b j] (h0 : b ≠ 0) (h : i ≤ 400000000000) (k : j ≤ 400000000000) : q_over a b = some (a / b) := q_over_eq h0 (Bd.qs h) (Bd.qs k)
theorem q_divB {a b : Rat} {i j : Nat} [Bd a i] [Bd b j] (h : i ≤ 400000000000) (k : j ≤ 400000000000) : q_div a b = some (if b = 0 then (0, 9) else (a / b, 0)) := q_div_eq (Bd.qs h) (Bd.qs k)
theorem q_cmpB {a b : Rat} {i j : Nat} [Bd a i] [Bd b j] (h : i ≤ 400000000000) (k : j ≤ 400000000000) : q_cmp a b = some (cmpq a b) := q_cmp_eq (Bd.qs h) (Bd.qs k)
theorem Same_B {a : Rat} {i : Nat} [Bd a i] (h : i ≤ 400000000000) : m_l_Same a a = some true := Same_self (Bd.qs h)
theorem same_B {a : Rat} {i : Nat} [Bd a i] (h : i ≤ 400000000000) : m_l_same a a = some true := same_self (Bd.qs h)
theorem q_one : q_int 1 = some 1 := by decide +kernel
theorem sq_nn (x : Rat) : 0 ≤ x * x := by
  by_cases h : 0 ≤ x
  · exact Rat.mul_nonneg h h
  · have h1 : 0 ≤ -x := by grind
    have h2 := Rat.mul_nonneg h1 h1
    grind
theorem one_sq (x : Rat) : 1 + x * x ≠ 0 := by have := sq_nn x; grind
theorem sgn_eq0 {x : Rat} : sgn x = 0 ↔ x = 0 := by unfold sgn; grind
theorem rnd_sz (a : Rat) : sz ((rnd a : Int) : Rat) ≤ sz a + 10 := by
  have h2 : sz ((a + 1 / 2).floor : Rat) ≤ sz a + 4 := Nat.le_trans (sz_floor _) (by have := sz_add a (1 / 2); rw [sz_half] at this; omega)
  unfold rnd
  split
  · have e : (((a + 1 / 2).floor - 1 : Int) : Rat) = ((a + 1 / 2).floor : Rat) - 1 := by simp
    rw [e]
    have := sz_sub ((a + 1 / 2).floor : Rat) 1
    have e1 : sz (1 : Rat) = 1 := rfl
    omega
  · omega
theorem ceil_sz (a : Rat) : sz ((a.ceil : Int) : Rat) ≤ sz a + 1 := by
  have h := sz_floor (-a)
  rw [sz_neg'] at h
  have e : a.ceil = -(-a).floor := by rw [Rat.ceil_eq_neg_floor_neg]
  rw [e]
  have e2 : ((-(-a).floor : Int) : Rat) = -((-a).floor : Rat) := by simp
  rw [e2, sz_neg']; exact h
theorem num_sz (a : Rat) : sz ((a.num : Int) : Rat) ≤ sz a + 1 := by
  have ha := sz_le.1 (Nat.le_refl (sz a))
  exact Nat.le_trans (sz_int _) (by omega)
instance Bd.rnd {a : Rat} {i : Nat} [h : Bd a i] : Bd ((rnd a : Int) : Rat) (i + 10) := ⟨by have := rnd_sz a; have := h.le; omega⟩
instance Bd.ceil {a : Rat} {i : Nat} [h : Bd a i] : Bd ((a.ceil : Int) : Rat) (i + 1) := ⟨by have := ceil_sz a; have := h.le; omega⟩
instance Bd.num {a : Rat} {i : Nat} [h : Bd a i] : Bd ((a.num : Int) : Rat) (i + 1) := ⟨by have := num_sz a; have := h.le; omega⟩
theorem SamePoint_B {a b : Rat} {i j : Nat} [Bd a i] [Bd b j] (h : i ≤ 400000000000) (k : j ≤ 400000000000) : m_l_SamePoint a b a b = some true := by
  unfold m_l_SamePoint
  simp [Same_B h, Same_B k]
theorem sameRot_B {a b : Rat} {i j : Nat} [Bd a i] [Bd b j] (h : i ≤ 400000000000) (k : j ≤ 400000000000) : m_l_sameRot a b a b = some true := by
  unfold m_l_sameRot
  simp [Same_B h, Same_B k]
theorem q_two : q_int 2 = some 2 := by decide +kernel
instance Bd.two : Bd 2 2 := ⟨by decide +kernel⟩
theorem BothPoints_is (a1 a2 a3 a4 a5 a6 : Int) (h1 : i64r a1) (h2 : i64r a2) (h3 : 0 ≤ a3 ∧ a3 ≤ 255) (h4 : i64r a4) (h5 : i64r a5) (h6 : 0 ≤ a6 ∧ a6 ≤ 255) :
    ∃ x z, m_l_BothPoints a1 a2 a3 a4 a5 a6 = some ((x, z), (x, z)) ∧ sz x ≤ 256 ∧ sz z ≤ 256 := by
  obtain ⟨e1, s1⟩ := Both_is a1 a2 a3 h1 h2 h3
  obtain ⟨e2, s2⟩ := Both_is a4 a5 a6 h4 h5 h6
  refine ⟨_, _, ?_, s1, s2⟩
  unfold m_l_BothPoints
  rw [e1, e2]; rfl
theorem Half_eq (a b : Rat) (ha : sz a ≤ 256) (hb : sz b ≤ 256) : m_Rot_Half a b = some (if 1 + a = 0 then (0, false) else (b / (1 + a), true)) ∧ m_r_Half a b = some (if 1 + a = 0 then (0, false) else (b / (1 + a), true)) := by
  haveI : Bd a 256 := ⟨ha⟩
  haveI : Bd b 256 := ⟨hb⟩
  have hz : sgn 0 = 0 := rfl
  unfold m_Rot_Half m_r_Half
  by_cases h : 1 + a = 0
  · simp [q_one, q_addB, q_divB, h, q_sign, hz]
  · have hs : ¬ sgn (1 + a) = 0 := fun e => h (sgn_eq0.1 e)
    simp [q_one, q_addB, q_divB, q_overB, h, q_sign, hs]
end Go.Am
