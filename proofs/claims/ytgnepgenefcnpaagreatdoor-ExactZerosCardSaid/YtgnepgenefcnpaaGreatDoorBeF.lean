/- Part 6 of 8 of what the laws of layer 1 share: contracts of functions of the program, each for every argument of its description; no condition beyond it. -/
import Derived.Test.YtgnepgenefcnpaaGreatDoorBeE
set_option linter.unusedVariables false
set_option linter.unusedSimpArgs false
namespace Go.Am
theorem sz_pos (x : Rat) : 1 ≤ sz x := by
  have h := x.den_nz
  have h1 : blen 1 ≤ blen x.den := blen_mono (by omega)
  rw [blen_one] at h1
  exact Nat.le_trans h1 (Nat.le_max_right _ _)
theorem sz_div' (a b : Rat) : sz (a / b) ≤ sz a + sz b := by
  by_cases h : b = 0
  · subst h
    have e : a / 0 = 0 := by rw [Rat.div_def, Rat.inv_zero, Rat.mul_zero]
    have := sz_pos a
    rw [e]
    have e2 : sz (0 : Rat) = 1 := rfl
    omega
  · exact sz_div a b h
theorem absq (a : Rat) : a ≤ (((a.num.natAbs : Nat) : Int) : Rat) ∧ -a ≤ (((a.num.natAbs : Nat) : Int) : Rat) := by
  have hd : (0 : Rat) < (((a.den : Nat) : Int) : Rat) := by
    have := a.den_nz
    exact_mod_cast (by omega : (0 : Int) < ((a.den : Nat) : Int))
  have key : ∀ z : Int, z ≤ ((a.num.natAbs : Nat) : Int) → (z : Rat) / (((a.den : Nat) : Int) : Rat) ≤ (((a.num.natAbs : Nat) : Int) : Rat) := by
    intro z hz
    apply Rat.not_lt.1
    intro h
    rw [Rat.lt_div_iff hd] at h
    have h2 : (((a.num.natAbs : Nat) : Int) * ((a.den : Nat) : Int)) < z := by exact_mod_cast h
    have h3 : ((a.num.natAbs : Nat) : Int) * 1 ≤ ((a.num.natAbs : Nat) : Int) * ((a.den : Nat) : Int) := Int.mul_le_mul_of_nonneg_left (by have := a.den_nz; omega) (by omega)
    omega
  have e := num_den a
  refine ⟨?_, ?_⟩
  · have := key a.num (by omega)
    rw [e] at this; exact this
  · have := key (-a.num) (by omega)
    have e2 : ((-a.num : Int) : Rat) / (((a.den : Nat) : Int) : Rat) = -a := by
      rw [show ((-a.num : Int) : Rat) = -(a.num : Rat) by simp]
      have : -(a.num : Rat) / (((a.den : Nat) : Int) : Rat) = -((a.num : Rat) / (((a.den : Nat) : Int) : Rat)) := by grind
      rw [this, e]
    rw [e2] at this; exact this
theorem near_size {a : Rat} {p q most : Int} (hq : 0 ≤ q) (hm : q ≤ most) (h1 : a * (q : Rat) - (p : Rat) ≤ 1) (h2 : -1 ≤ a * (q : Rat) - (p : Rat)) : p.natAbs ≤ a.num.natAbs * most.toNat + 1 := by
  obtain ⟨a1, a2⟩ := absq a
  have hqr : (0 : Rat) ≤ (q : Rat) := by exact_mod_cast hq
  generalize a.num.natAbs = N at *
  have b1 : a * (q : Rat) ≤ ((N : Int) : Rat) * (q : Rat) := Rat.mul_le_mul_of_nonneg_right a1 hqr
  have b2 : -a * (q : Rat) ≤ ((N : Int) : Rat) * (q : Rat) := Rat.mul_le_mul_of_nonneg_right a2 hqr
  have c1 : (p : Rat) ≤ ((N : Int) : Rat) * (q : Rat) + 1 := by grind
  have c2 : -(p : Rat) ≤ ((N : Int) : Rat) * (q : Rat) + 1 := by grind
  have d1 : p ≤ (N : Int) * q + 1 := by exact_mod_cast c1
  have d2 : -p ≤ (N : Int) * q + 1 := by exact_mod_cast c2
  have d3 : (N : Int) * q ≤ (N : Int) * most := Int.mul_le_mul_of_nonneg_left hm (by omega)
  obtain ⟨m, rfl⟩ := Int.eq_ofNat_of_zero_le (show 0 ≤ most by omega)
  rw [Int.toNat_natCast]
  have d4 : ((N * m : Nat) : Int) = (N : Int) * (m : Int) := Int.natCast_mul N m
  omega
theorem CF_p {a : Rat} {most : Int} {t : Rat} {p q lp lq : Int} (h : CF a most t p q lp lq) (hq1 : 1 ≤ q) : p.natAbs ≤ a.num.natAbs * most.toNat + 1 := by
  have ht : 1 ≤ t := by
    rcases h.one with ⟨e1, _⟩ | ⟨_, e2⟩
    · omega
    · exact e2
  have hqr : (1 : Rat) ≤ (q : Rat) := by exact_mod_cast hq1
  have hlqr : (0 : Rat) ≤ (lq : Rat) := by exact_mod_cast h.hlq
  have hW : 1 ≤ t * (q : Rat) + (lq : Rat) := by
    have := Rat.mul_le_mul_of_nonneg_right ht (show (0 : Rat) ≤ (q : Rat) by grind)
    grind
  have hrel := h.rel
  have f1 : (a * q - p) * (t * q + lq) = -((p * lq - lp * q : Int) : Rat) := by
    have : ((p * lq - lp * q : Int) : Rat) = (p : Rat) * lq - lp * q := by simp
    rw [this]; grind
  have hdet : ((p * lq - lp * q : Int) : Rat) = 1 ∨ ((p * lq - lp * q : Int) : Rat) = -1 := by
    rcases h.det with e | e <;> rw [e] <;> simp
  have hu : ∀ u : Rat, u * (t * q + lq) ≤ 1 → u ≤ 1 := fun u hu => Rat.not_lt.1 (fun hc => by
    have := Rat.mul_le_mul_of_nonneg_left hW (show (0 : Rat) ≤ u by grind)
    grind)
  refine near_size h.hq h.mq (hu _ ?_) ?_
  · rcases hdet with e | e <;> rw [e] at f1 <;> grind
  · have := hu (-(a * q - p)) (by rcases hdet with e | e <;> rw [e] at f1 <;> grind)
    grind
theorem tail_eq (t : Rat) : t - (t.floor : Rat) = mkRat (t.num % (t.den : Int)) t.den := by
  have hd : (((t.den : Nat) : Int) : Rat) ≠ 0 := by
    have := t.den_nz
    exact_mod_cast (by omega : ((t.den : Nat) : Int) ≠ 0)
  rw [Rat.mkRat_eq_div]
  have e1 := num_den t
  have e2 : t.floor = t.num / (t.den : Int) := Rat.floor_def t
  have e3 : ((t.num : Int) : Rat) = (((t.den : Nat) : Int) : Rat) * ((t.num / (t.den : Int) : Int) : Rat) + ((t.num % (t.den : Int) : Int) : Rat) := by
    have := (Int.mul_ediv_add_emod t.num (t.den : Int)).symm
    exact_mod_cast this
  have e4 : ((t.den : Nat) : Rat) = (((t.den : Nat) : Int) : Rat) := rfl
  rw [e2, e4]
  generalize ((t.num : Int) : Rat) = N at *
  generalize (((t.den : Nat) : Int) : Rat) = D at *
  generalize ((t.num / (t.den : Int) : Int) : Rat) = F at *
  generalize ((t.num % (t.den : Int) : Int) : Rat) = R at *
  rw [← e1, e3]
  grind
theorem tail_inv (t : Rat) (h : t - (t.floor : Rat) ≠ 0) : (1 / (t - (t.floor : Rat))).den < t.den ∧ sz (1 / (t - (t.floor : Rat))) ≤ sz t := by
  rw [tail_eq] at h ⊢
  have hd := t.den_nz
  have hr0 : t.num % (t.den : Int) ≠ 0 := fun e => h (by rw [e]; simp)
  have hr1 := Int.emod_nonneg t.num (show (t.den : Int) ≠ 0 by omega)
  have hr2 := Int.emod_lt_of_pos t.num (show 0 < (t.den : Int) by omega)
  obtain ⟨r, hr⟩ := Int.eq_ofNat_of_zero_le hr1
  rw [hr] at h hr0 hr2 ⊢
  have e : 1 / mkRat (r : Int) t.den = mkRat (t.den : Int) r := by
    rw [Rat.mkRat_eq_div, Rat.mkRat_eq_div]
    have h1 : ((r : Nat) : Rat) ≠ 0 := by
      have : ((r : Nat) : Int) ≠ 0 := hr0
      exact_mod_cast this
    have h2 : ((t.den : Nat) : Rat) ≠ 0 := by exact_mod_cast hd
    have e3 : (((r : Nat) : Int) : Rat) = ((r : Nat) : Rat) := rfl
    have e4 : (((t.den : Nat) : Int) : Rat) = ((t.den : Nat) : Rat) := rfl
    rw [e3, e4]; grind
  rw [e]
  have hs := (sz_le.1 (Nat.le_refl (sz t))).2
  refine ⟨Nat.lt_of_le_of_lt (mk_den_le _ _ (by omega)) (by omega), sz_mk _ _ _ (by omega) (by rw [Int.natAbs_natCast]; exact hs) (Nat.le_trans (blen_mono (by omega)) hs)⟩
theorem cmpn_den (x y : Rat) : cmpq ((x.den : Nat) : Rat) ((y.den : Nat) : Rat) = cmpn x.den y.den := by
  unfold cmpq cmpn
  have h1 : (((x.den : Nat) : Rat) < ((y.den : Nat) : Rat)) ↔ x.den < y.den := by exact_mod_cast Iff.rfl
  have h2 : (((y.den : Nat) : Rat) < ((x.den : Nat) : Rat)) ↔ y.den < x.den := by exact_mod_cast Iff.rfl
  simp only [h1, h2]
theorem nearer_is (a x y : Rat) (ha : sz a ≤ 100000000000) (hx : sz x ≤ 110000000000) (hy : sz y ≤ 110000000000) : ∃ r, m_nearer a x y = some r ∧ (r = x ∨ r = y) ∧ ¬ better a x r ∧ ¬ better a y r := by
  have qa : qs' a := Nat.le_trans ha (by omega)
  have qx : qs' x := Nat.le_trans hx (by omega)
  have qy : qs' y := Nat.le_trans hy (by omega)
  have q1 : qs' (rabs (x - a)) := by have := sz_sub x a; unfold qs'; rw [sz_rabs]; omega
  have q2 : qs' (rabs (y - a)) := by have := sz_sub y a; unfold qs'; rw [sz_rabs]; omega
  have q3 : qs' ((x.den : Nat) : Rat) := by have := sz_den x; unfold qs'; omega
  have q4 : qs' ((y.den : Nat) : Rat) := by have := sz_den y; unfold qs'; omega
  have eA : ∀ v : Rat, q_abs v = some (rabs v) := fun v => rfl
  have e1 : q_sub x a = some (x - a) := must_eq ⟨qx, qa⟩
  have e2 : q_sub y a = some (y - a) := must_eq ⟨qy, qa⟩
  have e3 : q_cmp (rabs (x - a)) (rabs (y - a)) = some (cmpq (rabs (x - a)) (rabs (y - a))) := must_eq ⟨q1, q2⟩
  have e4 : q_den x = some (x.den : Rat) := must_eq qx
  have e5 : q_den y = some (y.den : Rat) := must_eq qy
  have e6 : q_cmp ((x.den : Nat) : Rat) ((y.den : Nat) : Rat) = some (cmpn x.den y.den) := by rw [← cmpn_den]; exact must_eq ⟨q3, q4⟩
  have e7 : q_cmp x y = some (cmpq x y) := must_eq ⟨qx, qy⟩
  unfold m_nearer
  simp only [e1, e2, eA, e3, e4, e5, e6, e7, Option.bind_some]
  have t1 : ∀ u v : Rat, (cmpq u v = -1 ∧ u < v) ∨ (cmpq u v = 1 ∧ v < u) ∨ (cmpq u v = 0 ∧ u = v) := by intro u v; unfold cmpq; grind
  have t2 : ∀ u v : Nat, (cmpn u v = -1 ∧ u < v) ∨ (cmpn u v = 1 ∧ v < u) ∨ (cmpn u v = 0 ∧ u = v) := by intro u v; unfold cmpn; grind
  have c1 := t1 (rabs (x - a)) (rabs (y - a))
  have c2 := t2 x.den y.den
  have c3 := t1 x y
  clear t1 t2 e1 e2 eA e3 e4 e5 e6 e7 q1 q2 q3 q4 qa qx qy ha hx hy
  rcases c1 with ⟨h1, k1⟩ | ⟨h1, k1⟩ | ⟨h1, k1⟩
  · rw [h1]; exact ⟨x, rfl, .inl rfl, by unfold better; grind, by unfold better; grind⟩
  · rw [h1]; exact ⟨y, rfl, .inr rfl, by unfold better; grind, by unfold better; grind⟩
  · rw [h1]
    rcases c2 with ⟨h2, k2⟩ | ⟨h2, k2⟩ | ⟨h2, k2⟩
    · rw [h2]; exact ⟨x, rfl, .inl rfl, by unfold better; grind, by unfold better; grind⟩
    · rw [h2]; exact ⟨y, rfl, .inr rfl, by unfold better; grind, by unfold better; grind⟩
    · rw [h2]
      rcases c3 with ⟨h3, k3⟩ | ⟨h3, k3⟩ | ⟨h3, k3⟩
      · rw [h3]; exact ⟨x, rfl, .inl rfl, by unfold better; grind, by unfold better; grind⟩
      · rw [h3]; exact ⟨y, rfl, .inr rfl, by unfold better; grind, by unfold better; grind⟩
      · rw [h3]; exact ⟨y, rfl, .inr rfl, by unfold better; grind, by unfold better; grind⟩
def nI (a : Rat) (most : Int) (x : Rat × Ns) : Prop := ∃ p q lp lq : Int, x.2 = ((p : Rat), (q : Rat), (lp : Rat), (lq : Rat)) ∧ CF a most x.1 p q lp lq ∧ sz x.1 ≤ sz a ∧ sz ((p : Int) : Rat) ≤ sz a + 80 ∧ sz ((lp : Int) : Rat) ≤ sz a + 80
def nQ (a : Rat) (most : Int) (r : Rat × St Ns Ns) : Prop := (Ns.fin r.2).2.1 ≠ 0 ∧ (Ns.fin r.2).2.2.2 ≠ 0 ∧ sz (Ns.fin r.2).1 ≤ 3 * sz a + 10000 ∧ sz (Ns.fin r.2).2.1 ≤ 10000 ∧ sz (Ns.fin r.2).2.2.1 ≤ 3 * sz a + 10000 ∧ sz (Ns.fin r.2).2.2.2 ≤ 10000 ∧
  ∀ z, (z = (Ns.fin r.2).1 / (Ns.fin r.2).2.1 ∨ z = (Ns.fin r.2).2.2.1 / (Ns.fin r.2).2.2.2) → ¬ better a ((Ns.fin r.2).1 / (Ns.fin r.2).2.1) z → ¬ better a ((Ns.fin r.2).2.2.1 / (Ns.fin r.2).2.2.2) z → Best a most.toNat z
theorem sz_small {q most : Int} (h0 : 0 ≤ q) (h : q ≤ most) (hm : i64r most) : sz ((q : Int) : Rat) ≤ 65 := by
  unfold i64r at hm
  exact Nat.le_trans (sz_int q) (Nat.succ_le_succ (blen_small (n := 64) (by omega)))
theorem sz_p {a : Rat} {most : Int} (hm : i64r most) {p : Int} (h : p.natAbs ≤ a.num.natAbs * most.toNat + 1) : sz ((p : Int) : Rat) ≤ sz a + 80 := by
  unfold i64r at hm
  have h1 : blen most.toNat ≤ 64 := blen_small (by omega)
  have h2 := blen_mul_le (sz_le.1 (Nat.le_refl (sz a))).1 h1
  have h3 : blen 1 ≤ sz a + 64 := by rw [blen_one]; omega
  have h4 := Nat.le_trans (blen_mono h) (blen_add h2 h3)
  have := sz_int p
  omega
theorem near_loop (a : Rat) (most : Int) (ha : sz a ≤ 10000000000) (hm : i64r most) (h1 : 1 ≤ most) (hden : most < (a.den : Int)) :
    ∃ r, Loop (expStep (nearStep most)) (a, ((1 : Rat), (0 : Rat), (0 : Rat), (1 : Rat))) = some r ∧ nQ a most r := by
  refine Loop_run (body := expStep (nearStep most)) (a, ((1 : Rat), (0 : Rat), (0 : Rat), (1 : Rat))) (nI a most) (fun x => x.1.den) (nQ a most) ⟨1, 0, 0, 1, by simp, CF_start a most h1, Nat.le_refl _, ?_, ?_⟩ ?_
  · have := sz_int 1
    have e : blen (1 : Int).natAbs = 1 := rfl
    omega
  · have := sz_int 0
    have e : blen (0 : Int).natAbs = 0 := rfl
    omega
  rintro ⟨t, s⟩ ⟨p, q, lp, lq, rfl, hc, ht, hp, hlp⟩
  simp only at hc ht
  have hq := sz_small hc.hq hc.mq hm
  have hlq := sz_small hc.hlq hc.mlq hm
  have hmm := sz_small (show 0 ≤ most by omega) (Int.le_refl most) hm
  have hf := sz_floor t
  have qt : qs' t := Nat.le_trans ht (by omega)
  have e1 : q_floor t = some (t.floor : Rat) := must_eq qt
  have s2 := sz_mul (t.floor : Rat) (q : Rat)
  have e2 : q_mul (t.floor : Rat) (q : Rat) = some ((t.floor : Rat) * (q : Rat)) := must_eq ⟨by unfold qs'; omega, by unfold qs'; omega⟩
  have s3 := sz_add ((t.floor : Rat) * (q : Rat)) (lq : Rat)
  have e3 : q_add ((t.floor : Rat) * (q : Rat)) (lq : Rat) = some ((t.floor : Rat) * (q : Rat) + (lq : Rat)) := must_eq ⟨by unfold qs'; omega, by unfold qs'; omega⟩
  have e4 : q_int most = some (most : Rat) := must_eq hm
  have e5 : q_cmp ((t.floor : Rat) * (q : Rat) + (lq : Rat)) (most : Rat) = some (cmpq ((t.floor : Rat) * (q : Rat) + (lq : Rat)) (most : Rat)) := must_eq ⟨by unfold qs'; omega, by unfold qs'; omega⟩
  have ei : (t.floor : Rat) * (q : Rat) + (lq : Rat) = ((t.floor * q + lq : Int) : Rat) := by simp
  unfold expStep nearStep
  simp only [e1, e2, e3, e4, e5, Option.bind_some]
  by_cases hbig : most < t.floor * q + lq
  · right
    have hcq : cmpq ((t.floor : Rat) * (q : Rat) + (lq : Rat)) (most : Rat) = 1 := by
      have : (most : Rat) < (t.floor : Rat) * (q : Rat) + (lq : Rat) := by rw [ei]; exact_mod_cast hbig
      unfold cmpq; grind
    obtain ⟨k, hk⟩ : ∃ k : Int, k = (((most : Rat) - (lq : Rat)) / (q : Rat)).floor := ⟨_, rfl⟩
    obtain ⟨b1, b2, b3, b4⟩ := CF_break h1 hc hbig hk
    have hq0 : (q : Rat) ≠ 0 := by
      have : (0 : Rat) < (q : Rat) := by exact_mod_cast (by omega : (0 : Int) < q)
      grind
    have u1 := sz_sub (most : Rat) (lq : Rat)
    have u2 := sz_div' ((most : Rat) - (lq : Rat)) (q : Rat)
    have u3 := sz_floor (((most : Rat) - (lq : Rat)) / (q : Rat))
    have f1 : q_sub (most : Rat) (lq : Rat) = some ((most : Rat) - (lq : Rat)) := must_eq ⟨by unfold qs'; omega, by unfold qs'; omega⟩
    have f2 : q_over ((most : Rat) - (lq : Rat)) (q : Rat) = some (((most : Rat) - (lq : Rat)) / (q : Rat)) := must_eq ⟨hq0, by unfold qs'; omega, by unfold qs'; omega⟩
    have f3 : q_floor (((most : Rat) - (lq : Rat)) / (q : Rat)) = some (k : Rat) := by rw [hk]; exact must_eq (by unfold qs'; omega)
    rw [← hk] at u3
    have u4 := sz_mul (k : Rat) (p : Rat)
    have u5 := sz_add ((k : Rat) * (p : Rat)) (lp : Rat)
    have u6 := sz_mul (k : Rat) (q : Rat)
    have u7 := sz_add ((k : Rat) * (q : Rat)) (lq : Rat)
    have f4 : q_mul (k : Rat) (p : Rat) = some ((k : Rat) * (p : Rat)) := must_eq ⟨by unfold qs'; omega, by unfold qs'; omega⟩
    have f5 : q_add ((k : Rat) * (p : Rat)) (lp : Rat) = some ((k : Rat) * (p : Rat) + (lp : Rat)) := must_eq ⟨by unfold qs'; omega, by unfold qs'; omega⟩
    have f6 : q_mul (k : Rat) (q : Rat) = some ((k : Rat) * (q : Rat)) := must_eq ⟨by unfold qs'; omega, by unfold qs'; omega⟩
    have f7 : q_add ((k : Rat) * (q : Rat)) (lq : Rat) = some ((k : Rat) * (q : Rat) + (lq : Rat)) := must_eq ⟨by unfold qs'; omega, by unfold qs'; omega⟩
    refine ⟨(t, .done ((k : Rat) * (p : Rat) + (lp : Rat), (k : Rat) * (q : Rat) + (lq : Rat), (p : Rat), (q : Rat))), ?_, ?_⟩
    · simp only [hcq, f1, f2, f3, f4, f5, f6, f7, Option.bind_some]; rfl
    · have ex : (k : Rat) * (p : Rat) + (lp : Rat) = ((k * p + lp : Int) : Rat) := by simp
      have ed : (k : Rat) * (q : Rat) + (lq : Rat) = ((k * q + lq : Int) : Rat) := by simp
      have hd0 : ((k * q + lq : Int) : Rat) ≠ 0 := by
        have : (0 : Rat) < ((k * q + lq : Int) : Rat) := by exact_mod_cast (by omega : (0 : Int) < k * q + lq)
        grind
      refine ⟨?_, hq0, ?_, ?_, ?_, ?_, ?_⟩ <;> simp only [Ns.fin]
      · rw [ed]; exact hd0
      · omega
      · omega
      · omega
      · omega
      · rw [ex, ed]; exact b4
  · left
    have hcq : (decide (cmpq ((t.floor : Rat) * (q : Rat) + (lq : Rat)) (most : Rat) > 0)) = false := by
      have : (t.floor : Rat) * (q : Rat) + (lq : Rat) ≤ (most : Rat) := by rw [ei]; exact_mod_cast (by omega : t.floor * q + lq ≤ most)
      rw [decide_eq_false_iff_not]
      unfold cmpq; grind
    have hle : t.floor * q + lq ≤ most := by omega
    have hne : t - (t.floor : Rat) ≠ 0 := fun e => by
      have := CF_end hc hle e
      omega
    obtain ⟨d1, d2⟩ := tail_inv t hne
    have hcn := CF_next hc hle hne
    have hq1 : 1 ≤ t.floor * q + lq := by
      rcases hcn.one with ⟨e, _⟩ | ⟨e, _⟩
      · exfalso
        rcases hc.one with ⟨e1, e2⟩ | ⟨e1, e2⟩
        · rw [e1, e2] at e; omega
        · have h3 : 1 ≤ t.floor := Rat.le_floor_iff.2 (by simpa using e2)
          have h4 : 1 * q ≤ t.floor * q := Int.mul_le_mul_of_nonneg_right h3 hc.hq
          have := hc.hlq
          omega
      · exact e
    have hpn := sz_p hm (CF_p hcn hq1)
    have u1 := sz_mul (t.floor : Rat) (p : Rat)
    have u2 := sz_add ((t.floor : Rat) * (p : Rat)) (lp : Rat)
    have u3 := sz_sub t (t.floor : Rat)
    have f1 : q_mul (t.floor : Rat) (p : Rat) = some ((t.floor : Rat) * (p : Rat)) := must_eq ⟨by unfold qs'; omega, by unfold qs'; omega⟩
    have f2 : q_add ((t.floor : Rat) * (p : Rat)) (lp : Rat) = some ((t.floor : Rat) * (p : Rat) + (lp : Rat)) := must_eq ⟨by unfold qs'; omega, by unfold qs'; omega⟩
    have f3 : q_sub t (t.floor : Rat) = some (t - (t.floor : Rat)) := must_eq ⟨qt, by unfold qs'; omega⟩
    have f4 : q_sign (t - (t.floor : Rat)) = some 1 := by
      have := Rat.floor_le t
      show some (sgn _) = _
      unfold sgn; grind
    have f5 : q_int 1 = some 1 := by decide +kernel
    have f6 : q_over 1 (t - (t.floor : Rat)) = some (1 / (t - (t.floor : Rat))) := must_eq ⟨hne, by decide, by unfold qs'; omega⟩
    refine ⟨(1 / (t - (t.floor : Rat)), ((t.floor : Rat) * (p : Rat) + (lp : Rat), (t.floor : Rat) * (q : Rat) + (lq : Rat), (p : Rat), (q : Rat))), ?_, ⟨t.floor * p + lp, t.floor * q + lq, p, q, by simp, hcn, Nat.le_trans d2 ht, hpn, hp⟩, d1⟩
    simp only [hcq, f1, f2, f3, f4, f5, f6, Option.bind_some, Bool.false_eq_true, if_false]
    rfl
theorem den_best (a : Rat) {n : Nat} (h : a.den ≤ n) : Best a n a := ⟨h, fun y _ => by
  by_cases e : y = a
  · subst e; exact better_irr _ _
  · have : a - a = 0 := by grind
    unfold better rabs
    rw [this]
    grind⟩
theorem Near_is (a : Rat) (most : Int) (ha : sz a ≤ 10000000000) (hm : i64r most) : m_Near a most = some (if most < 1 then (0, 3) else (nearR a most.toNat, 0)) := by
  unfold m_Near
  by_cases c1 : most < 1
  · rw [if_pos (decide_eq_true c1), if_pos c1]
  rw [if_neg (by simpa using c1), if_neg c1]
  have qa : qs' a := Nat.le_trans ha (by omega)
  have hmm := sz_small (show 0 ≤ most by omega) (Int.le_refl most) hm
  have sd := sz_den a
  have e1 : q_den a = some (a.den : Rat) := must_eq qa
  have e2 : q_int most = some (most : Rat) := must_eq hm
  have e3 : q_cmp ((a.den : Nat) : Rat) (most : Rat) = some (cmpq ((a.den : Nat) : Rat) (most : Rat)) := must_eq ⟨by unfold qs'; omega, by unfold qs'; omega⟩
  have e4 : q_int 1 = some 1 := by decide +kernel
  have e5 : q_int 0 = some 0 := by decide +kernel
  simp only [e1, e2, e3, e4, e5, Option.bind_some]
  have hcast : ((a.den : Nat) : Rat) = (((a.den : Nat) : Int) : Rat) := rfl
  by_cases c2 : (a.den : Int) ≤ most
  · have : (decide (cmpq ((a.den : Nat) : Rat) (most : Rat) ≤ 0)) = true := by
      have : (((a.den : Nat) : Int) : Rat) ≤ (most : Rat) := by exact_mod_cast c2
      rw [decide_eq_true_eq, hcast]
      unfold cmpq; grind
    rw [if_pos this]
    have := Best_uniq (den_best a (n := most.toNat) (by omega)) (nearR_Best a most.toNat (by omega))
    rw [← this]
  · have : ¬ (decide (cmpq ((a.den : Nat) : Rat) (most : Rat) ≤ 0)) = true := by
      have : (most : Rat) < (((a.den : Nat) : Int) : Rat) := by exact_mod_cast (by omega : most < ((a.den : Nat) : Int))
      rw [decide_eq_true_eq, hcast]
      unfold cmpq; grind
    rw [if_neg this]
    obtain ⟨r, hr, g1, g2, g3, g4, g5, g6, g7⟩ := near_loop a most ha hm (by omega) (by omega)
    rw [hr]
    simp only [Option.bind_some]
    generalize Ns.fin r.2 = s at *
    obtain ⟨p, q, lp, lq⟩ := s
    simp only at g1 g2 g3 g4 g5 g6 g7 ⊢
    have f1 : q_over p q = some (p / q) := must_eq ⟨g1, by unfold qs'; omega, by unfold qs'; omega⟩
    have f2 : q_over lp lq = some (lp / lq) := must_eq ⟨g2, by unfold qs'; omega, by unfold qs'; omega⟩
    have s1 := sz_div' p q
    have s2 := sz_div' lp lq
    obtain ⟨z, hz, k1, k2, k3⟩ := nearer_is a (p / q) (lp / lq) (by omega) (by omega) (by omega)
    rw [f1]
    simp only [Option.bind_some]
    rw [f2]
    simp only [Option.bind_some]
    rw [hz]
    have := Best_uniq (g7 z k1 k2 k3) (nearR_Best a most.toNat (by omega))
    simp only [Option.bind_some]
    rw [this]
def q_near (a : Rat) (most : Int) : Option (Rat × Int) := must (sz a ≤ 10000000000 ∧ i64r most) (some (if most < 1 then (0, 3) else (nearR a most.toNat, 0)))
theorem Q_near {a1 : Rat} {a2 : Int} {r3 : Rat} {r4 : Int} (h : q_near a1 a2 = some (r3, r4)) : CtrG PP 28 [] [qD a1, D.int .i64 a2] [] (D.tup [qD r3, D.int .i64 r4]) := by
  obtain ⟨⟨h1, h2⟩, h⟩ := must_some h
  have e := Near_is a1 a2 h1 h2
  rw [h] at e
  exact C_Near e
end Go.Am
namespace Go.Am
end Go.Am
namespace Go.Am
open Go.RowKit
set_option maxRecDepth 100000
noncomputable section
def m_Surd_sign (a1 : Rat) (a2 : Rat) (a3 : Rat) : Option Int := (q_sign a1).bind fun v4 => (q_sign a2).bind fun v6 => (q_sign a3).bind fun v8 => (if (decide ((IntKind.i64.wrap (v4 * (IntKind.i64.wrap (v6 * v8)))) ≥ 0)) = true then (if (v4 != 0) = true then some v4 else some (IntKind.i64.wrap (v6 * v8))) else (q_mul a1 a1).bind fun v12 => (q_mul a2 a2).bind fun v14 => (q_mul v14 a3).bind fun v16 => (q_cmp v12 v16).bind fun v18 => some (IntKind.i64.wrap (v4 * v18)))
theorem C_Surd_sign {a1 : Rat} {a2 : Rat} {a3 : Rat} {r20 : Int} (h : m_Surd_sign a1 a2 a3 = some r20) : CtrG PP 199 [] [D.agg (qC (a1) ++ qC (a2) ++ qC (a3))] [] (D.int .i64 r20) := by
  unfold m_Surd_sign at h
  refine .of Go.Proofs.Tryz.func199 rfl (by kernel_rfl) rfl rfl rfl rfl rfl rfl (fun A w0 L b => ?_)
  show Ok PP _ [(0, D.agg (qC (a1) ++ qC (a2) ++ qC (a3)))] [] _ _
  refine .reg (.bxA rfl rfl <| .asg rfl <| .nil) rfl ?_
  obtain ⟨v4, e5, h⟩ := bind_some h
  obtain ⟨v6, e7, h⟩ := bind_some h
  obtain ⟨v8, e9, h⟩ := bind_some h
  refine .regD hmix (.fa rfl f_exact_Surd_0 <| .ldE (qC (a1)) rfl rfl ly_exact_Q rfl rfl <| .callG (Q_sign e5) ⟨rfl, trivial⟩ trivial trivial <| .fa rfl f_exact_Surd_1 <| .ldE (qC (a2)) rfl rfl ly_exact_Q rfl rfl <| .callG (Q_sign e7) ⟨rfl, trivial⟩ trivial trivial <| .fa rfl f_exact_Surd_2 <| .ldE (qC (a3)) rfl rfl ly_exact_Q rfl rfl <| .callG (Q_sign e9) ⟨rfl, trivial⟩ trivial trivial <| .ar rfl rfl rfl <| .asg rfl <| .asg rfl <| .nil) rfl (by kernel_rfl) ?_
  refine .sq ?_
  refine .reg (.mv rfl <| .mv rfl <| .ar rfl rfl rfl <| .cm rfl rfl rfl <| .nil) rfl ?_
  by_cases c10 : (decide ((IntKind.i64.wrap (v4 * (IntKind.i64.wrap (v6 * v8)))) ≥ 0)) = true
  · replace h := ite_pos_some c10 h
    refine .cTb rfl c10 ?_
    refine .sq ?_
    refine .reg (.mv rfl <| .cm rfl rfl rfl <| .nil) rfl ?_
    by_cases c11 : (v4 != 0) = true
    · replace h := ite_pos_some c11 h
      refine .cTb rfl c11 ?_
      refine .reg (.mv rfl <| .asg rfl <| .nil) rfl ?_
      cases h
      refine .retG (fun _ _ hb => hb) rfl (.cons (.tmp rfl) .nil) (.refl _) trivial trivial
    · replace h := ite_neg_some c11 h
      refine .cFb rfl c11 ?_
      refine .skip (Ok.on ?_)
      refine .reg (.mv rfl <| .asg rfl <| .nil) rfl ?_
      cases h
      refine .retG (fun _ _ hb => hb) rfl (.cons (.tmp rfl) .nil) (.refl _) trivial trivial
  · replace h := ite_neg_some c10 h
    refine .cFb rfl c10 ?_
    refine .skip (Ok.on ?_)
    obtain ⟨v12, e13, h⟩ := bind_some h
    obtain ⟨v14, e15, h⟩ := bind_some h
    obtain ⟨v16, e17, h⟩ := bind_some h
    obtain ⟨v18, e19, h⟩ := bind_some h
    refine .regD hmix (.mv rfl <| .fa rfl f_exact_Surd_0 <| .ldE (qC (a1)) rfl rfl ly_exact_Q rfl rfl <| .fa rfl f_exact_Surd_0 <| .ldE (qC (a1)) rfl rfl ly_exact_Q rfl rfl <| .callG (Q_mul e13) ⟨rfl, rfl, trivial⟩ trivial trivial <| .fa rfl f_exact_Surd_1 <| .ldE (qC (a2)) rfl rfl ly_exact_Q rfl rfl <| .fa rfl f_exact_Surd_1 <| .ldE (qC (a2)) rfl rfl ly_exact_Q rfl rfl <| .callG (Q_mul e15) ⟨rfl, rfl, trivial⟩ trivial trivial <| .fa rfl f_exact_Surd_2 <| .ldE (qC (a3)) rfl rfl ly_exact_Q rfl rfl <| .callG (Q_mul e17) ⟨rfl, rfl, trivial⟩ trivial trivial <| .callG (Q_cmp e19) ⟨rfl, rfl, trivial⟩ trivial trivial <| .ar rfl rfl rfl <| .asg rfl <| .nil) rfl (by kernel_rfl) ?_
    cases h
    refine .retG (fun _ _ hb => hb) rfl (.cons (.tmp rfl) .nil) (.refl _) trivial trivial
def m_Surd_Sign (a1 : Rat) (a2 : Rat) (a3 : Rat) : Option (Int × Int) := (q_sign a3).bind fun v4 => (if (decide (v4 < 0)) = true then some (0, 8) else (m_Surd_sign a1 a2 a3).bind fun v7 => some (v7, 0))
theorem C_Surd_Sign {a1 : Rat} {a2 : Rat} {a3 : Rat} {r9 : Int} {r10 : Int} (h : m_Surd_Sign a1 a2 a3 = some (r9, r10)) : CtrG PP 117 [] [D.agg (qC (a1) ++ qC (a2) ++ qC (a3))] [] (D.tup [D.int .i64 r9, D.int .i64 r10]) := by
  unfold m_Surd_Sign at h
  refine .of Go.Proofs.Tryz.func117 rfl (by kernel_rfl) rfl rfl rfl rfl rfl rfl (fun A w0 L b => ?_)
  show Ok PP _ [(0, D.agg (qC (a1) ++ qC (a2) ++ qC (a3)))] [] _ _
  refine .reg (.bxA rfl rfl <| .asg rfl <| .asg rfl <| .nil) rfl ?_
  refine .sq ?_
  obtain ⟨v4, e5, h⟩ := bind_some h
  refine .reg (.fa rfl f_exact_Surd_2 <| .ldE (qC (a3)) rfl rfl ly_exact_Q rfl rfl <| .callG (Q_sign e5) ⟨rfl, trivial⟩ trivial trivial <| .cm rfl rfl rfl <| .nil) rfl ?_
  by_cases c6 : (decide (v4 < 0)) = true
  · replace h := ite_pos_some c6 h
    refine .cTb rfl c6 ?_
    refine .reg (.asg rfl <| .asg rfl <| .nil) rfl ?_
    cases h
    refine .retG (fun _ _ hb => hb) rfl (.cons (.tmp rfl) (.cons (.tmp rfl) .nil)) (.refl _) trivial trivial
  · replace h := ite_neg_some c6 h
    refine .cFb rfl c6 ?_
    refine .skip (Ok.on ?_)
    obtain ⟨v7, e8, h⟩ := bind_some h
    refine .reg (.ldE (qC (a1) ++ qC (a2) ++ qC (a3)) rfl rfl ly_exact_Surd rfl rfl <| .callG (C_Surd_sign e8) ⟨rfl, trivial⟩ trivial trivial <| .asg rfl <| .asg rfl <| .nil) rfl ?_
    cases h
    refine .retG (fun _ _ hb => hb) rfl (.cons (.tmp rfl) (.cons (.tmp rfl) .nil)) (.refl _) trivial trivial
def m_Surd_cmp (a1 : Rat) (a2 : Rat) (a3 : Rat) (a4 : Rat) (a5 : Rat) (a6 : Rat) : Option Int := (q_sub a1 a4).bind fun v7 => (m_Surd_sign v7 a2 a3).bind fun v9 => (q_sign a5).bind fun v11 => (q_sign a6).bind fun v13 => (if (decide (v9 < (IntKind.i64.wrap (v11 * v13)))) = true then some (-1) else (if (decide (v9 > (IntKind.i64.wrap (v11 * v13)))) = true then some 1 else (if (v9 == 0) = true then some 0 else (q_mul v7 a2).bind fun v18 => (q_mul v7 v7).bind fun v20 => (q_mul a2 a2).bind fun v22 => (q_mul v22 a3).bind fun v24 => (q_add v20 v24).bind fun v26 => (q_mul a5 a5).bind fun v28 => (q_mul v28 a6).bind fun v30 => (q_sub v26 v30).bind fun v32 => (q_add v18 v18).bind fun v34 => (m_Surd_sign v32 v34 a3).bind fun v36 => some (IntKind.i64.wrap (v9 * v36)))))
theorem C_Surd_cmp {a1 : Rat} {a2 : Rat} {a3 : Rat} {a4 : Rat} {a5 : Rat} {a6 : Rat} {r38 : Int} (h : m_Surd_cmp a1 a2 a3 a4 a5 a6 = some r38) : CtrG PP 200 [] [D.agg (qC (a1) ++ qC (a2) ++ qC (a3)), D.agg (qC (a4) ++ qC (a5) ++ qC (a6))] [] (D.int .i64 r38) := by
  unfold m_Surd_cmp at h
  refine .of Go.Proofs.Tryz.func200 rfl (by kernel_rfl) rfl rfl rfl rfl rfl rfl (fun A w0 L b => ?_)
  show Ok PP _ [(0, D.agg (qC (a1) ++ qC (a2) ++ qC (a3))), (1, D.agg (qC (a4) ++ qC (a5) ++ qC (a6)))] [] _ _
  refine .reg (.bxA rfl rfl <| .bxA rfl rfl <| .asg rfl <| .nil) rfl ?_
  obtain ⟨v7, e8, h⟩ := bind_some h
  refine .reg (.fa rfl f_exact_Surd_0 <| .ldE (qC (a1)) rfl rfl ly_exact_Q rfl rfl <| .fa rfl f_exact_Surd_0 <| .ldE (qC (a4)) rfl rfl ly_exact_Q rfl rfl <| .callG (Q_sub e8) ⟨rfl, rfl, trivial⟩ trivial trivial <| .fa rfl f_exact_Surd_0 <| .stE (qC (v7) ++ qC (a2) ++ qC (a3)) rfl rfl rfl ly_exact_Q rfl rfl rfl <| .nil) rfl ?_
  obtain ⟨v9, e10, h⟩ := bind_some h
  obtain ⟨v11, e12, h⟩ := bind_some h
  obtain ⟨v13, e14, h⟩ := bind_some h
  refine .regD hmix (.ldE (qC (v7) ++ qC (a2) ++ qC (a3)) rfl rfl ly_exact_Surd rfl rfl <| .callG (C_Surd_sign e10) ⟨rfl, trivial⟩ trivial trivial <| .fa rfl f_exact_Surd_1 <| .ldE (qC (a5)) rfl rfl ly_exact_Q rfl rfl <| .callG (Q_sign e12) ⟨rfl, trivial⟩ trivial trivial <| .fa rfl f_exact_Surd_2 <| .ldE (qC (a6)) rfl rfl ly_exact_Q rfl rfl <| .callG (Q_sign e14) ⟨rfl, trivial⟩ trivial trivial <| .ar rfl rfl rfl <| .asg rfl <| .asg rfl <| .nil) rfl (by kernel_rfl) ?_
  refine .sq ?_
  refine .block ?_
  refine .reg (.mv rfl <| .mv rfl <| .cm rfl rfl rfl <| .asg rfl <| .nil) rfl ?_
  by_cases c15 : (decide (v9 < (IntKind.i64.wrap (v11 * v13)))) = true
  · replace h := ite_pos_some c15 h
    refine .cTb rfl c15 ?_
    refine .reg (.asg rfl <| .nil) rfl ?_
    cases h
    refine .retG (fun _ _ hb => hb) rfl (.cons (.tmp rfl) .nil) (.refl _) trivial trivial
  · replace h := ite_neg_some c15 h
    refine .cFb rfl c15 ?_
    refine .reg (.mv rfl <| .mv rfl <| .cm rfl rfl rfl <| .asg rfl <| .nil) rfl ?_
    by_cases c16 : (decide (v9 > (IntKind.i64.wrap (v11 * v13)))) = true
    · replace h := ite_pos_some c16 h
      refine .cTb rfl c16 ?_
      refine .reg (.asg rfl <| .nil) rfl ?_
      cases h
      refine .retG (fun _ _ hb => hb) rfl (.cons (.tmp rfl) .nil) (.refl _) trivial trivial
    · replace h := ite_neg_some c16 h
      refine .cFb rfl c16 ?_
      refine .reg (.mv rfl <| .cm rfl rfl rfl <| .asg rfl <| .nil) rfl ?_
      by_cases c17 : (v9 == 0) = true
      · replace h := ite_pos_some c17 h
        refine .cTb rfl c17 ?_
        refine .reg (.asg rfl <| .nil) rfl ?_
        cases h
        refine .retG (fun _ _ hb => hb) rfl (.cons (.tmp rfl) .nil) (.refl _) trivial trivial
      · replace h := ite_neg_some c17 h
        refine .cFb rfl c17 ?_
        refine .skip (Ok.on ?_)
        obtain ⟨v18, e19, h⟩ := bind_some h
        refine .reg (.fa rfl f_exact_Surd_0 <| .ldE (qC (v7)) rfl rfl ly_exact_Q rfl rfl <| .fa rfl f_exact_Surd_1 <| .ldE (qC (a2)) rfl rfl ly_exact_Q rfl rfl <| .callG (Q_mul e19) ⟨rfl, rfl, trivial⟩ trivial trivial <| .alL (qC (0)) z_exact_Q ⟨zq1, zq2, zq3, trivial⟩ rfl <| .stE (qC (v18)) rfl rfl rfl ly_exact_Q rfl rfl rfl <| .nil) rfl ?_
        obtain ⟨v20, e21, h⟩ := bind_some h
        obtain ⟨v22, e23, h⟩ := bind_some h
        obtain ⟨v24, e25, h⟩ := bind_some h
        obtain ⟨v26, e27, h⟩ := bind_some h
        obtain ⟨v28, e29, h⟩ := bind_some h
        obtain ⟨v30, e31, h⟩ := bind_some h
        obtain ⟨v32, e33, h⟩ := bind_some h
        refine .regD hmix (.fa rfl f_exact_Surd_0 <| .ldE (qC (v7)) rfl rfl ly_exact_Q rfl rfl <| .fa rfl f_exact_Surd_0 <| .ldE (qC (v7)) rfl rfl ly_exact_Q rfl rfl <| .callG (Q_mul e21) ⟨rfl, rfl, trivial⟩ trivial trivial <| .fa rfl f_exact_Surd_1 <| .ldE (qC (a2)) rfl rfl ly_exact_Q rfl rfl <| .fa rfl f_exact_Surd_1 <| .ldE (qC (a2)) rfl rfl ly_exact_Q rfl rfl <| .callG (Q_mul e23) ⟨rfl, rfl, trivial⟩ trivial trivial <| .fa rfl f_exact_Surd_2 <| .ldE (qC (a3)) rfl rfl ly_exact_Q rfl rfl <| .callG (Q_mul e25) ⟨rfl, rfl, trivial⟩ trivial trivial <| .callG (Q_add e27) ⟨rfl, rfl, trivial⟩ trivial trivial <| .fa rfl f_exact_Surd_1 <| .ldE (qC (a5)) rfl rfl ly_exact_Q rfl rfl <| .fa rfl f_exact_Surd_1 <| .ldE (qC (a5)) rfl rfl ly_exact_Q rfl rfl <| .callG (Q_mul e29) ⟨rfl, rfl, trivial⟩ trivial trivial <| .fa rfl f_exact_Surd_2 <| .ldE (qC (a6)) rfl rfl ly_exact_Q rfl rfl <| .callG (Q_mul e31) ⟨rfl, rfl, trivial⟩ trivial trivial <| .callG (Q_sub e33) ⟨rfl, rfl, trivial⟩ trivial trivial <| .alL (qC (0)) z_exact_Q ⟨zq1, zq2, zq3, trivial⟩ rfl <| .stE (qC (v32)) rfl rfl rfl ly_exact_Q rfl rfl rfl <| .nil) rfl (by kernel_rfl) ?_
        obtain ⟨v34, e35, h⟩ := bind_some h
        obtain ⟨v36, e37, h⟩ := bind_some h
        refine .regD hmix (.mv rfl <| .ldE (qC (v32)) rfl rfl ly_exact_Q rfl rfl <| .ldE (qC (v18)) rfl rfl ly_exact_Q rfl rfl <| .ldE (qC (v18)) rfl rfl ly_exact_Q rfl rfl <| .callG (Q_add e35) ⟨rfl, rfl, trivial⟩ trivial trivial <| .fa rfl f_exact_Surd_2 <| .ldE (qC (a3)) rfl rfl ly_exact_Q rfl rfl <| .bdQ (qC (v32) ++ qC (v34) ++ qC (a3)) [(0, _, qD v32, qC (v32)), (3, _, qD v34, qC (v34)), (6, _, qD a3, qC (a3))] z_exact_Surd pl_exact_Surd ⟨rfl, rfl, .agg _, rfl, rfl, rfl, .agg _, rfl, rfl, rfl, .agg _, rfl, trivial⟩ ⟨rfl, rfl, rfl, trivial⟩ ⟨.refl _, .refl _, .refl _, .refl _, .refl _, .refl _, .refl _, .refl _, .refl _, trivial⟩ <| .callG (C_Surd_sign e37) ⟨rfl, trivial⟩ trivial trivial <| .ar rfl rfl rfl <| .asg rfl <| .nil) rfl (by kernel_rfl) ?_
        cases h
        refine .retG (fun _ _ hb => hb) rfl (.cons (.tmp rfl) .nil) (.refl _) trivial trivial
def m_Surd_Cmp (a1 : Rat) (a2 : Rat) (a3 : Rat) (a4 : Rat) (a5 : Rat) (a6 : Rat) : Option (Int × Int) := (q_sign a3).bind fun v7 => (if (decide (v7 < 0)) = true then some (0, 8) else (q_sign a6).bind fun v10 => (if (decide (v10 < 0)) = true then some (0, 8) else (m_Surd_cmp a1 a2 a3 a4 a5 a6).bind fun v13 => some (v13, 0)))
theorem C_Surd_Cmp {a1 : Rat} {a2 : Rat} {a3 : Rat} {a4 : Rat} {a5 : Rat} {a6 : Rat} {r15 : Int} {r16 : Int} (h : m_Surd_Cmp a1 a2 a3 a4 a5 a6 = some (r15, r16)) : CtrG PP 119 [] [D.agg (qC (a1) ++ qC (a2) ++ qC (a3)), D.agg (qC (a4) ++ qC (a5) ++ qC (a6))] [] (D.tup [D.int .i64 r15, D.int .i64 r16]) := by
  unfold m_Surd_Cmp at h
  refine .of Go.Proofs.Tryz.func119 rfl (by kernel_rfl) rfl rfl rfl rfl rfl rfl (fun A w0 L b => ?_)
  show Ok PP _ [(0, D.agg (qC (a1) ++ qC (a2) ++ qC (a3))), (1, D.agg (qC (a4) ++ qC (a5) ++ qC (a6)))] [] _ _
  refine .reg (.bxA rfl rfl <| .bxA rfl rfl <| .asg rfl <| .asg rfl <| .nil) rfl ?_
  refine .sq ?_
  obtain ⟨v7, e8, h⟩ := bind_some h
  by_cases c9 : (decide (v7 < 0)) = true
  · replace h := ite_pos_some c9 h
    refine .reg (.fa rfl f_exact_Surd_2 <| .ldE (qC (a3)) rfl rfl ly_exact_Q rfl rfl <| .callG (Q_sign e8) ⟨rfl, trivial⟩ trivial trivial <| .cm rfl rfl rfl <| .mv rfl <| .gNf rfl rfl rfl c9 <| .gNf rfl rfl rfl c9 <| .gNf rfl rfl rfl c9 <| .gNf rfl rfl rfl c9 <| .pkTb rfl c9 rfl <| .nil) rfl ?_
    refine .cTb rfl rfl ?_
    refine .reg (.asg rfl <| .asg rfl <| .nil) rfl ?_
    cases h
    refine .retG (fun _ _ hb => hb) rfl (.cons (.tmp rfl) (.cons (.tmp rfl) .nil)) (.refl _) trivial trivial
  · replace h := ite_neg_some c9 h
    obtain ⟨v10, e11, h⟩ := bind_some h
    refine .reg (.fa rfl f_exact_Surd_2 <| .ldE (qC (a3)) rfl rfl ly_exact_Q rfl rfl <| .callG (Q_sign e8) ⟨rfl, trivial⟩ trivial trivial <| .cm rfl rfl rfl <| .mv rfl <| .gYf rfl rfl rfl c9 <| .fa rfl f_exact_Surd_2 <| .gYf rfl rfl rfl c9 <| .ldE (qC (a6)) rfl rfl ly_exact_Q rfl rfl <| .gYf rfl rfl rfl c9 <| .callG (Q_sign e11) ⟨rfl, trivial⟩ trivial trivial <| .gYf rfl rfl rfl c9 <| .cm rfl rfl rfl <| .pkFb rfl c9 rfl <| .nil) rfl ?_
    by_cases c12 : (decide (v10 < 0)) = true
    · replace h := ite_pos_some c12 h
      refine .cTb rfl c12 ?_
      refine .reg (.asg rfl <| .asg rfl <| .nil) rfl ?_
      cases h
      refine .retG (fun _ _ hb => hb) rfl (.cons (.tmp rfl) (.cons (.tmp rfl) .nil)) (.refl _) trivial trivial
    · replace h := ite_neg_some c12 h
      refine .cFb rfl c12 ?_
      refine .skip (Ok.on ?_)
      obtain ⟨v13, e14, h⟩ := bind_some h
      refine .reg (.ldE (qC (a1) ++ qC (a2) ++ qC (a3)) rfl rfl ly_exact_Surd rfl rfl <| .ldE (qC (a4) ++ qC (a5) ++ qC (a6)) rfl rfl ly_exact_Surd rfl rfl <| .callG (C_Surd_cmp e14) ⟨rfl, rfl, trivial⟩ trivial trivial <| .asg rfl <| .asg rfl <| .nil) rfl ?_
      cases h
      refine .retG (fun _ _ hb => hb) rfl (.cons (.tmp rfl) (.cons (.tmp rfl) .nil)) (.refl _) trivial trivial
def m_Surd_normal (a1 : Rat) (a2 : Rat) (a3 : Rat) : Option (Rat × Rat × Rat) := (q_sign a2).bind fun v4 => (if (v4 == 0) = true then some (a1, 0, 0) else (q_sqrt a3).bind fun (v7, v8) => (if v8 = true then (q_mul a2 v7).bind fun v11 => (q_add a1 v11).bind fun v13 => some (v13, 0, 0) else (q_den a3).bind fun v15 => (q_over a2 v15).bind fun v17 => (q_num a3).bind fun v19 => (q_den a3).bind fun v21 => (q_mul v19 v21).bind fun v23 => some (a1, v17, v23)))
theorem C_Surd_normal {a1 : Rat} {a2 : Rat} {a3 : Rat} {r25 : Rat} {r26 : Rat} {r27 : Rat} (h : m_Surd_normal a1 a2 a3 = some (r25, r26, r27)) : CtrG PP 192 [] [D.agg (qC (a1) ++ qC (a2) ++ qC (a3))] [] (D.agg (qC (r25) ++ qC (r26) ++ qC (r27))) := by
  unfold m_Surd_normal at h
  refine .of Go.Proofs.Tryz.func192 rfl (by kernel_rfl) rfl rfl rfl rfl rfl rfl (fun A w0 L b => ?_)
  show Ok PP _ [(0, D.agg (qC (a1) ++ qC (a2) ++ qC (a3)))] [] _ _
  refine .reg (.bxA rfl rfl <| .alL (qC (0) ++ qC (0) ++ qC (0)) z_exact_Surd ⟨zq1, zq2, zq3, zq1, zq2, zq3, zq1, zq2, zq3, trivial⟩ rfl <| .nil) rfl ?_
  refine .sq ?_
  obtain ⟨v4, e5, h⟩ := bind_some h
  refine .reg (.fa rfl f_exact_Surd_1 <| .ldE (qC (a2)) rfl rfl ly_exact_Q rfl rfl <| .callG (Q_sign e5) ⟨rfl, trivial⟩ trivial trivial <| .cm rfl rfl rfl <| .nil) rfl ?_
  by_cases c6 : (v4 == 0) = true
  · replace h := ite_pos_some c6 h
    refine .cTb rfl c6 ?_
    refine .reg (.fa rfl f_exact_Surd_0 <| .ldE (qC (a1)) rfl rfl ly_exact_Q rfl rfl <| .bdQ (qC (a1) ++ qC (0) ++ qC (0)) [(0, _, qD a1, qC (a1))] z_exact_Surd pl_exact_Surd ⟨rfl, rfl, .agg _, rfl, trivial⟩ ⟨rfl, trivial⟩ ⟨.refl _, .refl _, .refl _, zq1, zq2, zq3, zq1, zq2, zq3, trivial⟩ <| .stE (qC (a1) ++ qC (0) ++ qC (0)) rfl rfl rfl ly_exact_Surd rfl rfl rfl <| .nil) rfl ?_
    cases h
    refine .retG (fun _ _ hb => hb) rfl (.cons (.agg rfl rfl ly_exact_Surd rfl) .nil) (.refl _) trivial trivial
  · replace h := ite_neg_some c6 h
    refine .cFb rfl c6 ?_
    refine .skip (Ok.on ?_)
    refine .sq ?_
    obtain ⟨⟨v7, v8⟩, e9, h⟩ := bind_some h
    refine .reg (.fa rfl f_exact_Surd_2 <| .ldE (qC (a3)) rfl rfl ly_exact_Q rfl rfl <| .callG (Q_sqrt e9) ⟨rfl, trivial⟩ trivial trivial <| .mv rfl <| .ext rfl rfl <| .ext rfl rfl <| .alL (qC (0)) z_exact_Q ⟨zq1, zq2, zq3, trivial⟩ rfl <| .stE (qC (v7)) rfl rfl rfl ly_exact_Q rfl rfl rfl <| .asg rfl <| .nil) rfl ?_
    refine .reg (.mv rfl <| .nil) rfl ?_
    by_cases c10 : v8 = true
    · replace h := ite_pos_some c10 h
      refine .cTb rfl c10 ?_
      obtain ⟨v11, e12, h⟩ := bind_some h
      obtain ⟨v13, e14, h⟩ := bind_some h
      refine .regD hmix (.fa rfl f_exact_Surd_0 <| .ldE (qC (a1)) rfl rfl ly_exact_Q rfl rfl <| .fa rfl f_exact_Surd_1 <| .ldE (qC (a2)) rfl rfl ly_exact_Q rfl rfl <| .ldE (qC (v7)) rfl rfl ly_exact_Q rfl rfl <| .callG (Q_mul e12) ⟨rfl, rfl, trivial⟩ trivial trivial <| .callG (Q_add e14) ⟨rfl, rfl, trivial⟩ trivial trivial <| .bdQ (qC (v13) ++ qC (0) ++ qC (0)) [(0, _, qD v13, qC (v13))] z_exact_Surd pl_exact_Surd ⟨rfl, rfl, .agg _, rfl, trivial⟩ ⟨rfl, trivial⟩ ⟨.refl _, .refl _, .refl _, zq1, zq2, zq3, zq1, zq2, zq3, trivial⟩ <| .stE (qC (v13) ++ qC (0) ++ qC (0)) rfl rfl rfl ly_exact_Surd rfl rfl rfl <| .nil) rfl (by kernel_rfl) ?_
      cases h
      refine .retG (fun _ _ hb => hb) rfl (.cons (.agg rfl rfl ly_exact_Surd rfl) .nil) (.refl _) trivial trivial
    · replace h := ite_neg_some c10 h
      refine .cFb rfl c10 ?_
      refine .skip (Ok.on ?_)
      obtain ⟨v15, e16, h⟩ := bind_some h
      obtain ⟨v17, e18, h⟩ := bind_some h
      obtain ⟨v19, e20, h⟩ := bind_some h
      obtain ⟨v21, e22, h⟩ := bind_some h
      obtain ⟨v23, e24, h⟩ := bind_some h
      refine .regD hmix (.fa rfl f_exact_Surd_0 <| .ldE (qC (a1)) rfl rfl ly_exact_Q rfl rfl <| .fa rfl f_exact_Surd_1 <| .ldE (qC (a2)) rfl rfl ly_exact_Q rfl rfl <| .fa rfl f_exact_Surd_2 <| .ldE (qC (a3)) rfl rfl ly_exact_Q rfl rfl <| .callG (Q_den e16) ⟨rfl, trivial⟩ trivial trivial <| .callG (Q_over e18) ⟨rfl, rfl, trivial⟩ trivial trivial <| .fa rfl f_exact_Surd_2 <| .ldE (qC (a3)) rfl rfl ly_exact_Q rfl rfl <| .callG (Q_num e20) ⟨rfl, trivial⟩ trivial trivial <| .fa rfl f_exact_Surd_2 <| .ldE (qC (a3)) rfl rfl ly_exact_Q rfl rfl <| .callG (Q_den e22) ⟨rfl, trivial⟩ trivial trivial <| .callG (Q_mul e24) ⟨rfl, rfl, trivial⟩ trivial trivial <| .bdQ (qC (a1) ++ qC (v17) ++ qC (v23)) [(0, _, qD a1, qC (a1)), (3, _, qD v17, qC (v17)), (6, _, qD v23, qC (v23))] z_exact_Surd pl_exact_Surd ⟨rfl, rfl, .agg _, rfl, rfl, rfl, .agg _, rfl, rfl, rfl, .agg _, rfl, trivial⟩ ⟨rfl, rfl, rfl, trivial⟩ ⟨.refl _, .refl _, .refl _, .refl _, .refl _, .refl _, .refl _, .refl _, .refl _, trivial⟩ <| .stE (qC (a1) ++ qC (v17) ++ qC (v23)) rfl rfl rfl ly_exact_Surd rfl rfl rfl <| .nil) rfl (by kernel_rfl) ?_
      cases h
      refine .retG (fun _ _ hb => hb) rfl (.cons (.agg rfl rfl ly_exact_Surd rfl) .nil) (.refl _) trivial trivial
def m_Surd_Normal (a1 : Rat) (a2 : Rat) (a3 : Rat) : Option ((Rat × Rat × Rat) × Int) := (q_sign a3).bind fun v4 => (if (decide (v4 < 0)) = true then some ((0, 0, 0), 8) else (m_Surd_normal a1 a2 a3).bind fun (v7, v8, v9) => some ((v7, v8, v9), 0))
theorem C_Surd_Normal {a1 : Rat} {a2 : Rat} {a3 : Rat} {r11 : Rat} {r12 : Rat} {r13 : Rat} {r14 : Int} (h : m_Surd_Normal a1 a2 a3 = some ((r11, r12, r13), r14)) : CtrG PP 118 [] [D.agg (qC (a1) ++ qC (a2) ++ qC (a3))] [] (D.tup [D.agg (qC (r11) ++ qC (r12) ++ qC (r13)), D.int .i64 r14]) := by
  unfold m_Surd_Normal at h
  refine .of Go.Proofs.Tryz.func118 rfl (by kernel_rfl) rfl rfl rfl rfl rfl rfl (fun A w0 L b => ?_)
  show Ok PP _ [(0, D.agg (qC (a1) ++ qC (a2) ++ qC (a3)))] [] _ _
  refine .reg (.bxA rfl rfl <| .alL (qC (0) ++ qC (0) ++ qC (0)) z_exact_Surd ⟨zq1, zq2, zq3, zq1, zq2, zq3, zq1, zq2, zq3, trivial⟩ rfl <| .asg rfl <| .nil) rfl ?_
  refine .sq ?_
  obtain ⟨v4, e5, h⟩ := bind_some h
  refine .reg (.fa rfl f_exact_Surd_2 <| .ldE (qC (a3)) rfl rfl ly_exact_Q rfl rfl <| .callG (Q_sign e5) ⟨rfl, trivial⟩ trivial trivial <| .cm rfl rfl rfl <| .nil) rfl ?_
  by_cases c6 : (decide (v4 < 0)) = true
  · replace h := ite_pos_some c6 h
    refine .cTb rfl c6 ?_
    refine .reg (.bdQ (qC (0) ++ qC (0) ++ qC (0)) [] z_exact_Surd pl_exact_Surd trivial trivial ⟨zq1, zq2, zq3, zq1, zq2, zq3, zq1, zq2, zq3, trivial⟩ <| .stE (qC (0) ++ qC (0) ++ qC (0)) rfl rfl rfl ly_exact_Surd rfl rfl rfl <| .asg rfl <| .nil) rfl ?_
    cases h
    refine .retG (fun _ _ hb => hb) rfl (.cons (.agg rfl rfl ly_exact_Surd rfl) (.cons (.tmp rfl) .nil)) (.refl _) trivial trivial
  · replace h := ite_neg_some c6 h
    refine .cFb rfl c6 ?_
    refine .skip (Ok.on ?_)
    obtain ⟨⟨v7, v8, v9⟩, e10, h⟩ := bind_some h
    refine .reg (.ldE (qC (a1) ++ qC (a2) ++ qC (a3)) rfl rfl ly_exact_Surd rfl rfl <| .callG (C_Surd_normal e10) ⟨rfl, trivial⟩ trivial trivial <| .stE (qC (v7) ++ qC (v8) ++ qC (v9)) rfl rfl rfl ly_exact_Surd rfl rfl rfl <| .asg rfl <| .nil) rfl ?_
    cases h
    refine .retG (fun _ _ hb => hb) rfl (.cons (.agg rfl rfl ly_exact_Surd rfl) (.cons (.tmp rfl) .nil)) (.refl _) trivial trivial
def m_Roots (a1 : Rat) (a2 : Rat) (a3 : Rat) : Option ((List (Rat × Rat × Rat)) × Int) := (q_sign a1).bind fun v4 => (if (v4 != 0) = true then (q_mul a2 a2).bind fun v7 => (q_int 4).bind fun v9 => (q_mul v9 a1).bind fun v11 => (q_mul v11 a3).bind fun v13 => (q_sub v7 v13).bind fun v15 => (q_add a1 a1).bind fun v17 => (q_over a2 v17).bind fun v19 => (q_neg v19).bind fun v21 => (q_int 1).bind fun v23 => (q_add a1 a1).bind fun v25 => (q_over v23 v25).bind fun v27 => (q_abs v27).bind fun v29 => (q_sign v15).bind fun v31 => (if (v31 == (-1)) = true then some ([], 0) else (if (v31 == 0) = true then some ([(v21, 0, 0)], 0) else (q_neg v29).bind fun v35 => (m_Surd_normal v21 v35 v15).bind fun (v37, v38, v39) => (m_Surd_normal v21 v29 v15).bind fun (v41, v42, v43) => some ([(v37, v38, v39), (v41, v42, v43)], 0))) else (q_sign a2).bind fun v45 => (if (v45 != 0) = true then (q_over a3 a2).bind fun v48 => (q_neg v48).bind fun v50 => some ([(v50, 0, 0)], 0) else (q_sign a3).bind fun v52 => (if (v52 != 0) = true then some ([], 0) else some ([], 10))))
theorem C_Roots {a1 : Rat} {a2 : Rat} {a3 : Rat} {r55 : List (Rat × Rat × Rat)} {r56 : Int} (h : m_Roots a1 a2 a3 = some (r55, r56)) : CtrG PP 101 [] [qD a1, qD a2, qD a3] [] (D.tup [slcE (Enc.prod Enc.rat (Enc.prod Enc.rat Enc.rat)) r55, D.int .i64 r56]) := by
  unfold m_Roots at h
  refine .of Go.Proofs.Tryz.func101 rfl (by kernel_rfl) rfl rfl rfl rfl rfl rfl (fun A w0 L b => ?_)
  show Ok PP _ [(0, qD a1), (1, qD a2), (2, qD a3)] [] _ _
  refine .reg (.bxA rfl rfl <| .bxA rfl rfl <| .bxA rfl rfl <| .asg rfl <| .asg rfl <| .nil) rfl ?_
  refine .sq ?_
  refine .block ?_
  obtain ⟨v4, e5, h⟩ := bind_some h
  refine .reg (.ldE (qC (a1)) rfl rfl ly_exact_Q rfl rfl <| .callG (Q_sign e5) ⟨rfl, trivial⟩ trivial trivial <| .cm rfl rfl rfl <| .asg rfl <| .nil) rfl ?_
  by_cases c6 : (v4 != 0) = true
  · replace h := ite_pos_some c6 h
    refine .cTb rfl c6 ?_
    refine .skip (Ok.on ?_)
    obtain ⟨v7, e8, h⟩ := bind_some h
    obtain ⟨v9, e10, h⟩ := bind_some h
    obtain ⟨v11, e12, h⟩ := bind_some h
    obtain ⟨v13, e14, h⟩ := bind_some h
    obtain ⟨v15, e16, h⟩ := bind_some h
    refine .regD hmix (.ldE (qC (a2)) rfl rfl ly_exact_Q rfl rfl <| .ldE (qC (a2)) rfl rfl ly_exact_Q rfl rfl <| .callG (Q_mul e8) ⟨rfl, rfl, trivial⟩ trivial trivial <| .callG (Q_int e10) ⟨rfl, trivial⟩ trivial trivial <| .ldE (qC (a1)) rfl rfl ly_exact_Q rfl rfl <| .callG (Q_mul e12) ⟨rfl, rfl, trivial⟩ trivial trivial <| .ldE (qC (a3)) rfl rfl ly_exact_Q rfl rfl <| .callG (Q_mul e14) ⟨rfl, rfl, trivial⟩ trivial trivial <| .callG (Q_sub e16) ⟨rfl, rfl, trivial⟩ trivial trivial <| .alL (qC (0)) z_exact_Q ⟨zq1, zq2, zq3, trivial⟩ rfl <| .stE (qC (v15)) rfl rfl rfl ly_exact_Q rfl rfl rfl <| .nil) rfl (by kernel_rfl) ?_
    obtain ⟨v17, e18, h⟩ := bind_some h
    obtain ⟨v19, e20, h⟩ := bind_some h
    obtain ⟨v21, e22, h⟩ := bind_some h
    obtain ⟨v23, e24, h⟩ := bind_some h
    obtain ⟨v25, e26, h⟩ := bind_some h
    obtain ⟨v27, e28, h⟩ := bind_some h
    obtain ⟨v29, e30, h⟩ := bind_some h
    refine .regD hmix (.ldE (qC (a2)) rfl rfl ly_exact_Q rfl rfl <| .ldE (qC (a1)) rfl rfl ly_exact_Q rfl rfl <| .ldE (qC (a1)) rfl rfl ly_exact_Q rfl rfl <| .callG (Q_add e18) ⟨rfl, rfl, trivial⟩ trivial trivial <| .callG (Q_over e20) ⟨rfl, rfl, trivial⟩ trivial trivial <| .callG (Q_neg e22) ⟨rfl, trivial⟩ trivial trivial <| .callG (Q_int e24) ⟨rfl, trivial⟩ trivial trivial <| .ldE (qC (a1)) rfl rfl ly_exact_Q rfl rfl <| .ldE (qC (a1)) rfl rfl ly_exact_Q rfl rfl <| .callG (Q_add e26) ⟨rfl, rfl, trivial⟩ trivial trivial <| .callG (Q_over e28) ⟨rfl, rfl, trivial⟩ trivial trivial <| .callG (Q_abs e30) ⟨rfl, trivial⟩ trivial trivial <| .alL (qC (0)) z_exact_Q ⟨zq1, zq2, zq3, trivial⟩ rfl <| .alL (qC (0)) z_exact_Q ⟨zq1, zq2, zq3, trivial⟩ rfl <| .stE (qC (v21)) rfl rfl rfl ly_exact_Q rfl rfl rfl <| .stE (qC (v29)) rfl rfl rfl ly_exact_Q rfl rfl rfl <| .nil) rfl (by kernel_rfl) ?_
    refine .sq ?_
    obtain ⟨v31, e32, h⟩ := bind_some h
    refine .reg (.ldE (qC (v15)) rfl rfl ly_exact_Q rfl rfl <| .callG (Q_sign e32) ⟨rfl, trivial⟩ trivial trivial <| .nil) rfl ?_
    refine .block ?_
    refine .reg (.cm rfl rfl rfl <| .asg rfl <| .nil) rfl ?_
    by_cases c33 : (v31 == (-1)) = true
    · replace h := ite_pos_some c33 h
      refine .cTb rfl c33 ?_
      refine .reg (.asg rfl <| .asg rfl <| .nil) rfl ?_
      cases h
      refine .retG (fun _ _ hb => hb) rfl (.cons (.tmp rfl) (.cons (.tmp rfl) .nil)) (.tup ⟨.nilE _, .refl _, trivial⟩) trivial trivial
    · replace h := ite_neg_some c33 h
      refine .cFb rfl c33 ?_
      refine .reg (.cm rfl rfl rfl <| .asg rfl <| .nil) rfl ?_
      by_cases c34 : (v31 == 0) = true
      · replace h := ite_pos_some c34 h
        refine .cTb rfl c34 ?_
        refine .reg (.ldE (qC (v21)) rfl rfl ly_exact_Q rfl rfl <| .bdQ (qC (v21) ++ qC (0) ++ qC (0)) [(0, _, qD v21, qC (v21))] z_exact_Surd pl_exact_Surd ⟨rfl, rfl, .agg _, rfl, trivial⟩ ⟨rfl, trivial⟩ ⟨.refl _, .refl _, .refl _, zq1, zq2, zq3, zq1, zq2, zq3, trivial⟩ <| .blQ (e := (Enc.prod Enc.rat (Enc.prod Enc.rat Enc.rat))) [(v21, 0, 0)] [(0, _, D.agg (qC (v21) ++ qC (0) ++ qC (0)), qC (v21) ++ qC (0) ++ qC (0))] mk_Lexact_Surd rfl rfl rfl ⟨rfl, rfl, .agg _, rfl, trivial⟩ ⟨rfl, trivial⟩ rfl rfl <| .asg rfl <| .asg rfl <| .nil) rfl ?_
        cases h
        refine .retG (fun _ _ hb => hb) rfl (.cons (.tmp rfl) (.cons (.tmp rfl) .nil)) (.refl _) trivial trivial
      · replace h := ite_neg_some c34 h
        refine .cFb rfl c34 ?_
        refine .skip (Ok.on ?_)
        obtain ⟨v35, e36, h⟩ := bind_some h
        obtain ⟨⟨v37, v38, v39⟩, e40, h⟩ := bind_some h
        obtain ⟨⟨v41, v42, v43⟩, e44, h⟩ := bind_some h
        refine .regD hmix (.ldE (qC (v21)) rfl rfl ly_exact_Q rfl rfl <| .ldE (qC (v29)) rfl rfl ly_exact_Q rfl rfl <| .callG (Q_neg e36) ⟨rfl, trivial⟩ trivial trivial <| .ldE (qC (v15)) rfl rfl ly_exact_Q rfl rfl <| .bdQ (qC (v21) ++ qC (v35) ++ qC (v15)) [(0, _, qD v21, qC (v21)), (3, _, qD v35, qC (v35)), (6, _, qD v15, qC (v15))] z_exact_Surd pl_exact_Surd ⟨rfl, rfl, .agg _, rfl, rfl, rfl, .agg _, rfl, rfl, rfl, .agg _, rfl, trivial⟩ ⟨rfl, rfl, rfl, trivial⟩ ⟨.refl _, .refl _, .refl _, .refl _, .refl _, .refl _, .refl _, .refl _, .refl _, trivial⟩ <| .callG (C_Surd_normal e40) ⟨rfl, trivial⟩ trivial trivial <| .ldE (qC (v21)) rfl rfl ly_exact_Q rfl rfl <| .ldE (qC (v29)) rfl rfl ly_exact_Q rfl rfl <| .ldE (qC (v15)) rfl rfl ly_exact_Q rfl rfl <| .bdQ (qC (v21) ++ qC (v29) ++ qC (v15)) [(0, _, qD v21, qC (v21)), (3, _, qD v29, qC (v29)), (6, _, qD v15, qC (v15))] z_exact_Surd pl_exact_Surd ⟨rfl, rfl, .agg _, rfl, rfl, rfl, .agg _, rfl, rfl, rfl, .agg _, rfl, trivial⟩ ⟨rfl, rfl, rfl, trivial⟩ ⟨.refl _, .refl _, .refl _, .refl _, .refl _, .refl _, .refl _, .refl _, .refl _, trivial⟩ <| .callG (C_Surd_normal e44) ⟨rfl, trivial⟩ trivial trivial <| .blQ (e := (Enc.prod Enc.rat (Enc.prod Enc.rat Enc.rat))) [(v37, v38, v39), (v41, v42, v43)] [(0, _, D.agg (qC (v37) ++ qC (v38) ++ qC (v39)), qC (v37) ++ qC (v38) ++ qC (v39)), (9, _, D.agg (qC (v41) ++ qC (v42) ++ qC (v43)), qC (v41) ++ qC (v42) ++ qC (v43))] mk_Lexact_Surd rfl rfl rfl ⟨rfl, rfl, .agg _, rfl, rfl, rfl, .agg _, rfl, trivial⟩ ⟨rfl, rfl, trivial⟩ rfl rfl <| .asg rfl <| .asg rfl <| .nil) rfl (by kernel_rfl) ?_
        cases h
        refine .retG (fun _ _ hb => hb) rfl (.cons (.tmp rfl) (.cons (.tmp rfl) .nil)) (.refl _) trivial trivial
  · replace h := ite_neg_some c6 h
    refine .cFb rfl c6 ?_
    obtain ⟨v45, e46, h⟩ := bind_some h
    refine .reg (.ldE (qC (a2)) rfl rfl ly_exact_Q rfl rfl <| .callG (Q_sign e46) ⟨rfl, trivial⟩ trivial trivial <| .cm rfl rfl rfl <| .asg rfl <| .nil) rfl ?_
    by_cases c47 : (v45 != 0) = true
    · replace h := ite_pos_some c47 h
      refine .cTb rfl c47 ?_
      obtain ⟨v48, e49, h⟩ := bind_some h
      obtain ⟨v50, e51, h⟩ := bind_some h
      refine .reg (.ldE (qC (a3)) rfl rfl ly_exact_Q rfl rfl <| .ldE (qC (a2)) rfl rfl ly_exact_Q rfl rfl <| .callG (Q_over e49) ⟨rfl, rfl, trivial⟩ trivial trivial <| .callG (Q_neg e51) ⟨rfl, trivial⟩ trivial trivial <| .bdQ (qC (v50) ++ qC (0) ++ qC (0)) [(0, _, qD v50, qC (v50))] z_exact_Surd pl_exact_Surd ⟨rfl, rfl, .agg _, rfl, trivial⟩ ⟨rfl, trivial⟩ ⟨.refl _, .refl _, .refl _, zq1, zq2, zq3, zq1, zq2, zq3, trivial⟩ <| .blQ (e := (Enc.prod Enc.rat (Enc.prod Enc.rat Enc.rat))) [(v50, 0, 0)] [(0, _, D.agg (qC (v50) ++ qC (0) ++ qC (0)), qC (v50) ++ qC (0) ++ qC (0))] mk_Lexact_Surd rfl rfl rfl ⟨rfl, rfl, .agg _, rfl, trivial⟩ ⟨rfl, trivial⟩ rfl rfl <| .asg rfl <| .asg rfl <| .nil) rfl ?_
      cases h
      refine .retG (fun _ _ hb => hb) rfl (.cons (.tmp rfl) (.cons (.tmp rfl) .nil)) (.refl _) trivial trivial
    · replace h := ite_neg_some c47 h
      refine .cFb rfl c47 ?_
      obtain ⟨v52, e53, h⟩ := bind_some h
      refine .reg (.ldE (qC (a3)) rfl rfl ly_exact_Q rfl rfl <| .callG (Q_sign e53) ⟨rfl, trivial⟩ trivial trivial <| .cm rfl rfl rfl <| .asg rfl <| .nil) rfl ?_
      by_cases c54 : (v52 != 0) = true
      · replace h := ite_pos_some c54 h
        refine .cTb rfl c54 ?_
        refine .reg (.asg rfl <| .asg rfl <| .nil) rfl ?_
        cases h
        refine .retG (fun _ _ hb => hb) rfl (.cons (.tmp rfl) (.cons (.tmp rfl) .nil)) (.tup ⟨.nilE _, .refl _, trivial⟩) trivial trivial
      · replace h := ite_neg_some c54 h
        refine .cFb rfl c54 ?_
        refine .reg (.asg rfl <| .asg rfl <| .nil) rfl ?_
        cases h
        refine .retG (fun _ _ hb => hb) rfl (.cons (.tmp rfl) (.cons (.tmp rfl) .nil)) (.tup ⟨.nilE _, .refl _, trivial⟩) trivial trivial
def m_Turn (a1 : Rat) : Option (Rat × Rat) := (q_mul a1 a1).bind fun v2 => (q_int 1).bind fun v4 => (q_add v4 v2).bind fun v6 => (q_int 1).bind fun v8 => (q_sub v8 v2).bind fun v10 => (q_over v10 v6).bind fun v12 => (q_add a1 a1).bind fun v14 => (q_over v14 v6).bind fun v16 => some (v12, v16)
theorem C_Turn {a1 : Rat} {r18 : Rat} {r19 : Rat} (h : m_Turn a1 = some (r18, r19)) : CtrG PP 61 [] [qD a1] [] (D.agg (qC (r18) ++ qC (r19))) := by
  unfold m_Turn at h
  refine .of Go.Proofs.Tryz.func61 rfl (by kernel_rfl) rfl rfl rfl rfl rfl rfl (fun A w0 L b => ?_)
  show Ok PP _ [(0, qD a1)] [] _ _
  refine .reg (.bxA rfl rfl <| .alL (qC (0) ++ qC (0)) z_exact_Rot ⟨zq1, zq2, zq3, zq1, zq2, zq3, trivial⟩ rfl <| .nil) rfl ?_
  obtain ⟨v2, e3, h⟩ := bind_some h
  refine .reg (.ldE (qC (a1)) rfl rfl ly_exact_Q rfl rfl <| .ldE (qC (a1)) rfl rfl ly_exact_Q rfl rfl <| .callG (Q_mul e3) ⟨rfl, rfl, trivial⟩ trivial trivial <| .alL (qC (0)) z_exact_Q ⟨zq1, zq2, zq3, trivial⟩ rfl <| .stE (qC (v2)) rfl rfl rfl ly_exact_Q rfl rfl rfl <| .nil) rfl ?_
  obtain ⟨v4, e5, h⟩ := bind_some h
  obtain ⟨v6, e7, h⟩ := bind_some h
  refine .regD hmix (.callG (Q_int e5) ⟨rfl, trivial⟩ trivial trivial <| .ldE (qC (v2)) rfl rfl ly_exact_Q rfl rfl <| .callG (Q_add e7) ⟨rfl, rfl, trivial⟩ trivial trivial <| .alL (qC (0)) z_exact_Q ⟨zq1, zq2, zq3, trivial⟩ rfl <| .stE (qC (v6)) rfl rfl rfl ly_exact_Q rfl rfl rfl <| .nil) rfl (by kernel_rfl) ?_
  obtain ⟨v8, e9, h⟩ := bind_some h
  obtain ⟨v10, e11, h⟩ := bind_some h
  obtain ⟨v12, e13, h⟩ := bind_some h
  obtain ⟨v14, e15, h⟩ := bind_some h
  obtain ⟨v16, e17, h⟩ := bind_some h
  refine .regD hmix (.callG (Q_int e9) ⟨rfl, trivial⟩ trivial trivial <| .ldE (qC (v2)) rfl rfl ly_exact_Q rfl rfl <| .callG (Q_sub e11) ⟨rfl, rfl, trivial⟩ trivial trivial <| .ldE (qC (v6)) rfl rfl ly_exact_Q rfl rfl <| .callG (Q_over e13) ⟨rfl, rfl, trivial⟩ trivial trivial <| .ldE (qC (a1)) rfl rfl ly_exact_Q rfl rfl <| .ldE (qC (a1)) rfl rfl ly_exact_Q rfl rfl <| .callG (Q_add e15) ⟨rfl, rfl, trivial⟩ trivial trivial <| .ldE (qC (v6)) rfl rfl ly_exact_Q rfl rfl <| .callG (Q_over e17) ⟨rfl, rfl, trivial⟩ trivial trivial <| .bdQ (qC (v12) ++ qC (v16)) [(0, _, qD v12, qC (v12)), (3, _, qD v16, qC (v16))] z_exact_Rot pl_exact_Rot ⟨rfl, rfl, .agg _, rfl, rfl, rfl, .agg _, rfl, trivial⟩ ⟨rfl, rfl, trivial⟩ ⟨.refl _, .refl _, .refl _, .refl _, .refl _, .refl _, trivial⟩ <| .stE (qC (v12) ++ qC (v16)) rfl rfl rfl ly_exact_Rot rfl rfl rfl <| .nil) rfl (by kernel_rfl) ?_
  cases h
  refine .retG (fun _ _ hb => hb) rfl (.cons (.agg rfl rfl ly_exact_Rot rfl) .nil) (.refl _) trivial trivial
end
end Go.Am
namespace Go.Am
open Go.RowKit
set_option maxRecDepth 100000
noncomputable section
def m_r_Rational (a1 : Rat) : Option (Rat × Rat × Rat) := some (a1, 0, 0)
theorem C_r_Rational {a1 : Rat} {r2 : Rat} {r3 : Rat} {r4 : Rat} (h : m_r_Rational a1 = some (r2, r3, r4)) : CtrG PP 193 [] [rqD a1] [] (D.agg (rqC (r2) ++ rqC (r3) ++ rqC (r4))) := by
  unfold m_r_Rational at h
  refine .of Go.Proofs.Tryz.func193 rfl (by kernel_rfl) rfl rfl rfl rfl rfl rfl (fun A w0 L b => ?_)
  show Ok PP _ [(0, rqD a1)] [] _ _
  refine .reg (.bxA rfl rfl <| .alL (rqC (0) ++ rqC (0) ++ rqC (0)) z_ambleref01_Surd ⟨zr1, zr2, .refl _, zr4, zr1, zr2, .refl _, zr4, zr1, zr2, .refl _, zr4, trivial⟩ rfl <| .nil) rfl ?_
  refine .reg (.ldE (rqC (a1)) rfl rfl ly_ambleref01_Q rfl rfl <| .bdQ (rqC (a1) ++ rqC (0) ++ rqC (0)) [(0, _, rqD a1, rqC (a1))] z_ambleref01_Surd pl_ambleref01_Surd ⟨rfl, rfl, .agg _, rfl, trivial⟩ ⟨rfl, trivial⟩ ⟨.refl _, .refl _, .refl _, .refl _, zr1, zr2, .refl _, zr4, zr1, zr2, .refl _, zr4, trivial⟩ <| .stE (rqC (a1) ++ rqC (0) ++ rqC (0)) rfl rfl rfl ly_ambleref01_Surd rfl rfl rfl <| .nil) rfl ?_
  cases h
  refine .retG (fun _ _ hb => hb) rfl (.cons (.agg rfl rfl ly_ambleref01_Surd rfl) .nil) (.refl _) trivial trivial
def m_r_Roots (a1 : Rat) (a2 : Rat) (a3 : Rat) : Option (List (Rat × Rat × Rat)) := (q_sign a1).bind fun v4 => (if (v4 == 0) = true then (q_sign a2).bind fun v7 => (if (v7 == 0) = true then some ([]) else (q_over a3 a2).bind fun v10 => (q_neg v10).bind fun v12 => (m_r_Rational v12).bind fun (v14, v15, v16) => some ([(v14, v15, v16)])) else (q_mul a2 a2).bind fun v18 => (q_int 4).bind fun v20 => (q_mul a1 a3).bind fun v22 => (q_mul v20 v22).bind fun v24 => (q_sub v18 v24).bind fun v26 => (q_int 2).bind fun v28 => (q_mul v28 a1).bind fun v30 => (q_over a2 v30).bind fun v32 => (q_neg v32).bind fun v34 => (q_sign v26).bind fun v36 => (if (decide (v36 < 0)) = true then some ([]) else (q_sign v26).bind fun v39 => (if (v39 == 0) = true then (m_r_Rational v34).bind fun (v42, v43, v44) => some ([(v42, v43, v44)]) else (q_int 1).bind fun v46 => (q_over v46 v30).bind fun v48 => (q_abs v48).bind fun v50 => (q_neg v50).bind fun v52 => (r_normal v34 v52 v26).bind fun (v54, v55, v56) => (r_normal v34 v50 v26).bind fun (v58, v59, v60) => some ([(v54, v55, v56), (v58, v59, v60)]))))
theorem C_r_Roots {a1 : Rat} {a2 : Rat} {a3 : Rat} {r62 : List (Rat × Rat × Rat)} (h : m_r_Roots a1 a2 a3 = some r62) : CtrG PP 102 [] [rqD a1, rqD a2, rqD a3] [] (slcE (Enc.prod Enc.rq (Enc.prod Enc.rq Enc.rq)) r62) := by
  unfold m_r_Roots at h
  refine .of Go.Proofs.Tryz.func102 rfl (by kernel_rfl) rfl rfl rfl rfl rfl rfl (fun A w0 L b => ?_)
  show Ok PP _ [(0, rqD a1), (1, rqD a2), (2, rqD a3)] [] _ _
  refine .reg (.bxA rfl rfl <| .bxA rfl rfl <| .bxA rfl rfl <| .asg rfl <| .nil) rfl ?_
  refine .sq ?_
  obtain ⟨v4, e5, h⟩ := bind_some h
  refine .reg (.ldE (rqC (a1)) rfl rfl ly_ambleref01_Q rfl rfl <| .callG (R_sign e5) ⟨rfl, trivial⟩ trivial trivial <| .cm rfl rfl rfl <| .nil) rfl ?_
  by_cases c6 : (v4 == 0) = true
  · replace h := ite_pos_some c6 h
    refine .cTb rfl c6 ?_
    refine .sq ?_
    obtain ⟨v7, e8, h⟩ := bind_some h
    refine .reg (.ldE (rqC (a2)) rfl rfl ly_ambleref01_Q rfl rfl <| .callG (R_sign e8) ⟨rfl, trivial⟩ trivial trivial <| .cm rfl rfl rfl <| .nil) rfl ?_
    by_cases c9 : (v7 == 0) = true
    · replace h := ite_pos_some c9 h
      refine .cTb rfl c9 ?_
      refine .reg (.asg rfl <| .nil) rfl ?_
      cases h
      refine .retG (fun _ _ hb => hb) rfl (.cons (.tmp rfl) .nil) (.nilE _) trivial trivial
    · replace h := ite_neg_some c9 h
      refine .cFb rfl c9 ?_
      refine .skip (Ok.on ?_)
      obtain ⟨v10, e11, h⟩ := bind_some h
      obtain ⟨v12, e13, h⟩ := bind_some h
      obtain ⟨⟨v14, v15, v16⟩, e17, h⟩ := bind_some h
      refine .reg (.ldE (rqC (a3)) rfl rfl ly_ambleref01_Q rfl rfl <| .ldE (rqC (a2)) rfl rfl ly_ambleref01_Q rfl rfl <| .callG (R_over e11) ⟨rfl, rfl, trivial⟩ trivial trivial <| .callG (R_neg e13) ⟨rfl, trivial⟩ trivial trivial <| .callG (C_r_Rational e17) ⟨rfl, trivial⟩ trivial trivial <| .blQ (e := (Enc.prod Enc.rq (Enc.prod Enc.rq Enc.rq))) [(v14, v15, v16)] [(0, _, D.agg (rqC (v14) ++ rqC (v15) ++ rqC (v16)), rqC (v14) ++ rqC (v15) ++ rqC (v16))] mk_Lambleref01_Surd rfl rfl rfl ⟨rfl, rfl, .agg _, rfl, trivial⟩ ⟨rfl, trivial⟩ rfl rfl <| .asg rfl <| .nil) rfl ?_
      cases h
      refine .retG (fun _ _ hb => hb) rfl (.cons (.tmp rfl) .nil) (.refl _) trivial trivial
  · replace h := ite_neg_some c6 h
    refine .cFb rfl c6 ?_
    refine .skip (Ok.on ?_)
    obtain ⟨v18, e19, h⟩ := bind_some h
    obtain ⟨v20, e21, h⟩ := bind_some h
    obtain ⟨v22, e23, h⟩ := bind_some h
    obtain ⟨v24, e25, h⟩ := bind_some h
    obtain ⟨v26, e27, h⟩ := bind_some h
    refine .regD hmix (.ldE (rqC (a2)) rfl rfl ly_ambleref01_Q rfl rfl <| .ldE (rqC (a2)) rfl rfl ly_ambleref01_Q rfl rfl <| .callG (R_mul e19) ⟨rfl, rfl, trivial⟩ trivial trivial <| .callG (R_int e21) ⟨rfl, trivial⟩ trivial trivial <| .ldE (rqC (a1)) rfl rfl ly_ambleref01_Q rfl rfl <| .ldE (rqC (a3)) rfl rfl ly_ambleref01_Q rfl rfl <| .callG (R_mul e23) ⟨rfl, rfl, trivial⟩ trivial trivial <| .callG (R_mul e25) ⟨rfl, rfl, trivial⟩ trivial trivial <| .callG (R_sub e27) ⟨rfl, rfl, trivial⟩ trivial trivial <| .alL (rqC (0)) z_ambleref01_Q ⟨zr1, zr2, .refl _, zr4, trivial⟩ rfl <| .stE (rqC (v26)) rfl rfl rfl ly_ambleref01_Q rfl rfl rfl <| .nil) rfl (by kernel_rfl) ?_
    obtain ⟨v28, e29, h⟩ := bind_some h
    obtain ⟨v30, e31, h⟩ := bind_some h
    refine .regD hmix (.callG (R_int e29) ⟨rfl, trivial⟩ trivial trivial <| .ldE (rqC (a1)) rfl rfl ly_ambleref01_Q rfl rfl <| .callG (R_mul e31) ⟨rfl, rfl, trivial⟩ trivial trivial <| .alL (rqC (0)) z_ambleref01_Q ⟨zr1, zr2, .refl _, zr4, trivial⟩ rfl <| .stE (rqC (v30)) rfl rfl rfl ly_ambleref01_Q rfl rfl rfl <| .nil) rfl (by kernel_rfl) ?_
    obtain ⟨v32, e33, h⟩ := bind_some h
    obtain ⟨v34, e35, h⟩ := bind_some h
    refine .reg (.ldE (rqC (a2)) rfl rfl ly_ambleref01_Q rfl rfl <| .ldE (rqC (v30)) rfl rfl ly_ambleref01_Q rfl rfl <| .callG (R_over e33) ⟨rfl, rfl, trivial⟩ trivial trivial <| .callG (R_neg e35) ⟨rfl, trivial⟩ trivial trivial <| .alL (rqC (0)) z_ambleref01_Q ⟨zr1, zr2, .refl _, zr4, trivial⟩ rfl <| .stE (rqC (v34)) rfl rfl rfl ly_ambleref01_Q rfl rfl rfl <| .nil) rfl ?_
    refine .sq ?_
    obtain ⟨v36, e37, h⟩ := bind_some h
    refine .reg (.ldE (rqC (v26)) rfl rfl ly_ambleref01_Q rfl rfl <| .callG (R_sign e37) ⟨rfl, trivial⟩ trivial trivial <| .cm rfl rfl rfl <| .nil) rfl ?_
    by_cases c38 : (decide (v36 < 0)) = true
    · replace h := ite_pos_some c38 h
      refine .cTb rfl c38 ?_
      refine .reg (.asg rfl <| .nil) rfl ?_
      cases h
      refine .retG (fun _ _ hb => hb) rfl (.cons (.tmp rfl) .nil) (.nilE _) trivial trivial
    · replace h := ite_neg_some c38 h
      refine .cFb rfl c38 ?_
      refine .skip (Ok.on ?_)
      refine .sq ?_
      obtain ⟨v39, e40, h⟩ := bind_some h
      refine .reg (.ldE (rqC (v26)) rfl rfl ly_ambleref01_Q rfl rfl <| .callG (R_sign e40) ⟨rfl, trivial⟩ trivial trivial <| .cm rfl rfl rfl <| .nil) rfl ?_
      by_cases c41 : (v39 == 0) = true
      · replace h := ite_pos_some c41 h
        refine .cTb rfl c41 ?_
        obtain ⟨⟨v42, v43, v44⟩, e45, h⟩ := bind_some h
        refine .reg (.ldE (rqC (v34)) rfl rfl ly_ambleref01_Q rfl rfl <| .callG (C_r_Rational e45) ⟨rfl, trivial⟩ trivial trivial <| .blQ (e := (Enc.prod Enc.rq (Enc.prod Enc.rq Enc.rq))) [(v42, v43, v44)] [(0, _, D.agg (rqC (v42) ++ rqC (v43) ++ rqC (v44)), rqC (v42) ++ rqC (v43) ++ rqC (v44))] mk_Lambleref01_Surd rfl rfl rfl ⟨rfl, rfl, .agg _, rfl, trivial⟩ ⟨rfl, trivial⟩ rfl rfl <| .asg rfl <| .nil) rfl ?_
        cases h
        refine .retG (fun _ _ hb => hb) rfl (.cons (.tmp rfl) .nil) (.refl _) trivial trivial
      · replace h := ite_neg_some c41 h
        refine .cFb rfl c41 ?_
        refine .skip (Ok.on ?_)
        obtain ⟨v46, e47, h⟩ := bind_some h
        obtain ⟨v48, e49, h⟩ := bind_some h
        obtain ⟨v50, e51, h⟩ := bind_some h
        refine .regD hmix (.callG (R_int e47) ⟨rfl, trivial⟩ trivial trivial <| .ldE (rqC (v30)) rfl rfl ly_ambleref01_Q rfl rfl <| .callG (R_over e49) ⟨rfl, rfl, trivial⟩ trivial trivial <| .callG (R_abs e51) ⟨rfl, trivial⟩ trivial trivial <| .alL (rqC (0)) z_ambleref01_Q ⟨zr1, zr2, .refl _, zr4, trivial⟩ rfl <| .stE (rqC (v50)) rfl rfl rfl ly_ambleref01_Q rfl rfl rfl <| .nil) rfl (by kernel_rfl) ?_
        obtain ⟨v52, e53, h⟩ := bind_some h
        obtain ⟨⟨v54, v55, v56⟩, e57, h⟩ := bind_some h
        obtain ⟨⟨v58, v59, v60⟩, e61, h⟩ := bind_some h
        refine .regD hmix (.ldE (rqC (v34)) rfl rfl ly_ambleref01_Q rfl rfl <| .ldE (rqC (v50)) rfl rfl ly_ambleref01_Q rfl rfl <| .callG (R_neg e53) ⟨rfl, trivial⟩ trivial trivial <| .ldE (rqC (v26)) rfl rfl ly_ambleref01_Q rfl rfl <| .bdQ (rqC (v34) ++ rqC (v52) ++ rqC (v26)) [(0, _, rqD v34, rqC (v34)), (4, _, rqD v52, rqC (v52)), (8, _, rqD v26, rqC (v26))] z_ambleref01_Surd pl_ambleref01_Surd ⟨rfl, rfl, .agg _, rfl, rfl, rfl, .agg _, rfl, rfl, rfl, .agg _, rfl, trivial⟩ ⟨rfl, rfl, rfl, trivial⟩ ⟨.refl _, .refl _, .refl _, .refl _, .refl _, .refl _, .refl _, .refl _, .refl _, .refl _, .refl _, .refl _, trivial⟩ <| .callG (R_normal e57) ⟨rfl, trivial⟩ trivial trivial <| .ldE (rqC (v34)) rfl rfl ly_ambleref01_Q rfl rfl <| .ldE (rqC (v50)) rfl rfl ly_ambleref01_Q rfl rfl <| .ldE (rqC (v26)) rfl rfl ly_ambleref01_Q rfl rfl <| .bdQ (rqC (v34) ++ rqC (v50) ++ rqC (v26)) [(0, _, rqD v34, rqC (v34)), (4, _, rqD v50, rqC (v50)), (8, _, rqD v26, rqC (v26))] z_ambleref01_Surd pl_ambleref01_Surd ⟨rfl, rfl, .agg _, rfl, rfl, rfl, .agg _, rfl, rfl, rfl, .agg _, rfl, trivial⟩ ⟨rfl, rfl, rfl, trivial⟩ ⟨.refl _, .refl _, .refl _, .refl _, .refl _, .refl _, .refl _, .refl _, .refl _, .refl _, .refl _, .refl _, trivial⟩ <| .callG (R_normal e61) ⟨rfl, trivial⟩ trivial trivial <| .blQ (e := (Enc.prod Enc.rq (Enc.prod Enc.rq Enc.rq))) [(v54, v55, v56), (v58, v59, v60)] [(0, _, D.agg (rqC (v54) ++ rqC (v55) ++ rqC (v56)), rqC (v54) ++ rqC (v55) ++ rqC (v56)), (12, _, D.agg (rqC (v58) ++ rqC (v59) ++ rqC (v60)), rqC (v58) ++ rqC (v59) ++ rqC (v60))] mk_Lambleref01_Surd rfl rfl rfl ⟨rfl, rfl, .agg _, rfl, rfl, rfl, .agg _, rfl, trivial⟩ ⟨rfl, rfl, trivial⟩ rfl rfl <| .asg rfl <| .nil) rfl (by kernel_rfl) ?_
        cases h
        refine .retG (fun _ _ hb => hb) rfl (.cons (.tmp rfl) .nil) (.refl _) trivial trivial
end
end Go.Am
namespace Go.Am
open Go.RowKit
set_option maxRecDepth 100000
noncomputable section
def m_l_Both_l1 (a3 : Int) (v8 : Rat) (v11 : Rat) (v15 : Int) (v16 : Rat) (v17 : Rat) : Option (St (Int × Rat × Rat) (Rat × Rat)) := (if (decide (v15 < (Int.tmod a3 4))) = true then (q_mul v16 v8).bind fun v23 => (q_mul v17 v11).bind fun v25 => some (St.next ((IntKind.u8.wrap (v15 + 1)), v23, v25)) else some (St.done (v16, v17)))
def m_l_Both (a1 : Int) (a2 : Int) (a3 : Int) : Option (Rat × Rat) := ((if (a2 == 0) = true then some (1) else some (a2))).bind fun v7 => (q_of a1 v7).bind fun (v8, v9) => (r_of a1 v7).bind fun v11 => ((Loop (fun (s : Int × Rat × Rat) => m_l_Both_l1 a3 v8 v11 s.1 s.2.1 s.2.2) (0, v8, v11)).bind fun (v27, v28) => some ((v27, v28))).bind fun (v29, v30) => some (v29, v30)
theorem C_l_Both {a1 : Int} {a2 : Int} {a3 : Int} {r31 : Rat} {r32 : Rat} (h : m_l_Both a1 a2 a3 = some (r31, r32)) : CtrG PP 27 [] [D.agg ([D.int .i64 a1, D.int .i64 a2, D.int .u8 a3])] [] (D.tup [qD r31, rqD r32]) := by
  unfold m_l_Both at h
  refine .of Go.Proofs.Tryz.func27 rfl (by kernel_rfl) rfl rfl rfl rfl rfl rfl (fun A w0 L b => ?_)
  show Ok PP _ [(0, D.agg ([D.int .i64 a1, D.int .i64 a2, D.int .u8 a3]))] [] _ _
  refine .reg (.bxA rfl rfl <| .alL (qC (0)) z_exact_Q ⟨zq1, zq2, zq3, trivial⟩ rfl <| .alL (rqC (0)) z_ambleref01_Q ⟨zr1, zr2, .refl _, zr4, trivial⟩ rfl <| .nil) rfl ?_
  obtain ⟨v7, hp5, h⟩ := bind_some h
  refine .cutX (fun i => v7 = i) (fun (i : Int) => [(1, D.ref 1 0), (2, D.ref 2 0), (3, D.ref 3 0)]) (fun (i : Int) => [(1, Hp.box 43 ([D.int .i64 a1, D.int .i64 i, D.int .u8 a3])), (2, Hp.box 28 (qC (0))), (3, Hp.box 37 (rqC (0)))]) ?_ ?_
  · have ho1 := h
    clear h
    have h := hp5
    clear hp5
    refine .reg (.fa rfl f_amblelaw01_Num_1 <| .ldE1 (D.int .i64 a2) rfl rfl ly_int64 rfl <| .cm rfl rfl rfl <| .nil) rfl ?_
    by_cases c6 : (a2 == 0) = true
    · replace h := ite_pos_some c6 h
      refine .cTb rfl c6 ?_
      refine .region (.fa rfl f_amblelaw01_Num_1 <| .stE1 ([D.int .i64 a1, D.int .i64 1, D.int .u8 a3]) rfl rfl rfl ly_int64 rfl rfl rfl <| .nil) rfl (fun _ _ hs => ⟨1, (Option.some.inj h).symm, hs.sub ⟨⟨_, rfl, .refl _⟩, ⟨_, rfl, .refl _⟩, ⟨_, rfl, .refl _⟩, trivial⟩ ⟨⟨_, rfl, .refl _⟩, ⟨_, rfl, .refl _⟩, ⟨_, rfl, .refl _⟩, trivial⟩ rfl rfl⟩)
    · replace h := ite_neg_some c6 h
      refine .cFb rfl c6 ?_
      refine .skip (fun _ _ hs => ⟨a2, (Option.some.inj h).symm, hs.sub ⟨⟨_, rfl, .refl _⟩, ⟨_, rfl, .refl _⟩, ⟨_, rfl, .refl _⟩, trivial⟩ ⟨⟨_, rfl, .refl _⟩, ⟨_, rfl, .refl _⟩, ⟨_, rfl, .refl _⟩, trivial⟩ rfl rfl⟩)
  · rintro _ rfl
    show Ok PP _ [(1, D.ref 1 0), (2, D.ref 2 0), (3, D.ref 3 0)] [(1, Hp.box 43 ([D.int .i64 a1, D.int .i64 v7, D.int .u8 a3])), (2, Hp.box 28 (qC (0))), (3, Hp.box 37 (rqC (0)))] _ _
    obtain ⟨⟨v8, v9⟩, e10, h⟩ := bind_some h
    refine .reg (.fa rfl f_amblelaw01_Num_0 <| .ldE1 (D.int .i64 a1) rfl rfl ly_int64 rfl <| .fa rfl f_amblelaw01_Num_1 <| .ldE1 (D.int .i64 v7) rfl rfl ly_int64 rfl <| .callG (Q_of e10) ⟨rfl, rfl, trivial⟩ trivial trivial <| .mv rfl <| .ext rfl rfl <| .ext rfl rfl <| .alL (qC (0)) z_exact_Q ⟨zq1, zq2, zq3, trivial⟩ rfl <| .stE (qC (v8)) rfl rfl rfl ly_exact_Q rfl rfl rfl <| .asg rfl <| .nil) rfl ?_
    obtain ⟨v11, e12, h⟩ := bind_some h
    refine .reg (.fa rfl f_amblelaw01_Num_0 <| .ldE1 (D.int .i64 a1) rfl rfl ly_int64 rfl <| .fa rfl f_amblelaw01_Num_1 <| .ldE1 (D.int .i64 v7) rfl rfl ly_int64 rfl <| .callG (R_of e12) ⟨rfl, rfl, trivial⟩ trivial trivial <| .alL (rqC (0)) z_ambleref01_Q ⟨zr1, zr2, .refl _, zr4, trivial⟩ rfl <| .stE (rqC (v11)) rfl rfl rfl ly_ambleref01_Q rfl rfl rfl <| .nil) rfl ?_
    refine .regD hmix (.ldE (qC (v8)) rfl rfl ly_exact_Q rfl rfl <| .ldE (rqC (v11)) rfl rfl ly_ambleref01_Q rfl rfl <| .alL (qC (0)) z_exact_Q ⟨zq1, zq2, zq3, trivial⟩ rfl <| .alL (rqC (0)) z_ambleref01_Q ⟨zr1, zr2, .refl _, zr4, trivial⟩ rfl <| .stE (qC (v8)) rfl rfl rfl ly_exact_Q rfl rfl rfl <| .stE (rqC (v11)) rfl rfl rfl ly_ambleref01_Q rfl rfl rfl <| .nil) rfl (by kernel_rfl) ?_
    obtain ⟨o13, hp14, h⟩ := bind_some h
    refine .cutX (fun i => o13 = i) (fun (i : Rat × Rat) => [(2, D.ref 2 0), (3, D.ref 3 0), (7, D.ref 7 0), (8, D.ref 8 0)]) (fun (i : Rat × Rat) => [(2, Hp.box 28 (qC (0))), (3, Hp.box 37 (rqC (0))), (7, Hp.box 28 (qC (i.1))), (8, Hp.box 37 (rqC (i.2)))]) ?_ ?_
    · have ho1 := h
      clear h
      have h := hp14
      clear hp14
      refine .reg (.asg rfl <| .nil) rfl ?_
      obtain ⟨o18, hl19, h⟩ := bind_some h
      have ho2 := h
      clear h
      refine .block (.loopL (fun (s : Int × Rat × Rat) => [(1, D.ref 1 0), (2, D.ref 2 0), (3, D.ref 3 0), (4, D.ref 4 0), (6, D.ref 6 0), (7, D.ref 7 0), (8, D.ref 8 0), (9, D.int .u8 s.1)]) (fun (s : Int × Rat × Rat) => [(1, Hp.box 43 ([D.int .i64 a1, D.int .i64 v7, D.int .u8 a3])), (2, Hp.box 28 (qC (0))), (3, Hp.box 37 (rqC (0))), (4, Hp.box 28 (qC (v8))), (6, Hp.box 37 (rqC (v11))), (7, Hp.box 28 (qC (s.2.1))), (8, Hp.box 37 (rqC (s.2.2)))]) hl19 ⟨⟨_, rfl, .refl _⟩, ⟨_, rfl, .refl _⟩, ⟨_, rfl, .refl _⟩, ⟨_, rfl, .refl _⟩, ⟨_, rfl, .refl _⟩, ⟨_, rfl, .refl _⟩, ⟨_, rfl, .refl _⟩, ⟨_, rfl, .refl _⟩, trivial⟩ ⟨⟨_, rfl, .refl _⟩, ⟨_, rfl, .refl _⟩, ⟨_, rfl, .refl _⟩, ⟨_, rfl, .refl _⟩, ⟨_, rfl, .refl _⟩, ⟨_, rfl, .refl _⟩, ⟨_, rfl, .refl _⟩, trivial⟩ rfl rfl ?_)
      rintro ⟨v15, v16, v17⟩ st20 hb21
      have h : m_l_Both_l1 a3 v8 v11 v15 v16 v17 = some st20 := hb21
      clear hb21
      unfold m_l_Both_l1 at h
      show Ok PP _ [(1, D.ref 1 0), (2, D.ref 2 0), (3, D.ref 3 0), (4, D.ref 4 0), (6, D.ref 6 0), (7, D.ref 7 0), (8, D.ref 8 0), (9, D.int .u8 v15)] [(1, Hp.box 43 ([D.int .i64 a1, D.int .i64 v7, D.int .u8 a3])), (2, Hp.box 28 (qC (0))), (3, Hp.box 37 (rqC (0))), (4, Hp.box 28 (qC (v8))), (6, Hp.box 37 (rqC (v11))), (7, Hp.box 28 (qC (v16))), (8, Hp.box 37 (rqC (v17)))] _ _
      refine .sq ?_
      refine .reg (.mv rfl <| .fa rfl f_amblelaw01_Num_2 <| .ldE1 (D.int .u8 a3) rfl rfl ly_uint8 rfl <| .ar rfl rfl (irem (by decide)) <| .cm rfl rfl rfl <| .nil) rfl ?_
      by_cases c22 : (decide (v15 < (Int.tmod a3 4))) = true
      · replace h := ite_pos_some c22 h
        refine .cTb rfl c22 ?_
        refine .skip (Ok.on ?_)
        refine .sq ?_
        refine .block ?_
        obtain ⟨v23, e24, h⟩ := bind_some h
        refine .reg (.ldE (qC (v16)) rfl rfl ly_exact_Q rfl rfl <| .ldE (qC (v8)) rfl rfl ly_exact_Q rfl rfl <| .callG (Q_mul e24) ⟨rfl, rfl, trivial⟩ trivial trivial <| .stE (qC (v23)) rfl rfl rfl ly_exact_Q rfl rfl rfl <| .nil) rfl ?_
        obtain ⟨v25, e26, h⟩ := bind_some h
        refine .region (.ldE (rqC (v17)) rfl rfl ly_ambleref01_Q rfl rfl <| .ldE (rqC (v11)) rfl rfl ly_ambleref01_Q rfl rfl <| .callG (R_mul e26) ⟨rfl, rfl, trivial⟩ trivial trivial <| .stE (rqC (v25)) rfl rfl rfl ly_ambleref01_Q rfl rfl rfl <| .nil) rfl (Ok.on ?_)
        refine .region (.mv rfl <| .ar rfl rfl rfl <| .asg rfl <| .nil) rfl (fun _ _ hs => ⟨((IntKind.u8.wrap (v15 + 1)), v23, v25), (Option.some.inj h).symm, hs.sub ⟨⟨_, rfl, .refl _⟩, ⟨_, rfl, .refl _⟩, ⟨_, rfl, .refl _⟩, ⟨_, rfl, .refl _⟩, ⟨_, rfl, .refl _⟩, ⟨_, rfl, .refl _⟩, ⟨_, rfl, .refl _⟩, ⟨_, rfl, .refl _⟩, trivial⟩ ⟨⟨_, rfl, .refl _⟩, ⟨_, rfl, .refl _⟩, ⟨_, rfl, .refl _⟩, ⟨_, rfl, .refl _⟩, ⟨_, rfl, .refl _⟩, ⟨_, rfl, .refl _⟩, ⟨_, rfl, .refl _⟩, trivial⟩ rfl rfl⟩)
      · replace h := ite_neg_some c22 h
        refine .cFb rfl c22 ?_
        refine .exit (fun a w hs => ⟨_, (Option.some.inj h).symm, fun e => by subst e; have h := ho2; exact blk_exit (⟨(v16, v17), (Option.some.inj h).symm, hs.sub ⟨⟨_, rfl, .refl _⟩, ⟨_, rfl, .refl _⟩, ⟨_, rfl, .refl _⟩, ⟨_, rfl, .refl _⟩, trivial⟩ ⟨⟨_, rfl, .refl _⟩, ⟨_, rfl, .refl _⟩, ⟨_, rfl, .refl _⟩, ⟨_, rfl, .refl _⟩, trivial⟩ rfl rfl⟩)⟩)
    · rintro ⟨v29, v30⟩ rfl
      show Ok PP _ [(2, D.ref 2 0), (3, D.ref 3 0), (7, D.ref 7 0), (8, D.ref 8 0)] [(2, Hp.box 28 (qC (0))), (3, Hp.box 37 (rqC (0))), (7, Hp.box 28 (qC (v29))), (8, Hp.box 37 (rqC (v30)))] _ _
      refine .regD hmix (.ldE (qC (v29)) rfl rfl ly_exact_Q rfl rfl <| .ldE (rqC (v30)) rfl rfl ly_ambleref01_Q rfl rfl <| .stE (qC (v29)) rfl rfl rfl ly_exact_Q rfl rfl rfl <| .stE (rqC (v30)) rfl rfl rfl ly_ambleref01_Q rfl rfl rfl <| .nil) rfl (by kernel_rfl) ?_
      cases h
      refine .retG (fun _ _ hb => hb) rfl (.cons (.agg rfl rfl ly_exact_Q rfl) (.cons (.agg rfl rfl ly_ambleref01_Q rfl) .nil)) (.refl _) trivial trivial
def m_l_Same (a1 : Rat) (a2 : Rat) : Option Bool := (q_text a1).bind fun v3 => (q_text a2).bind fun v5 => some (v3 == v5)
theorem C_l_Same {a1 : Rat} {a2 : Rat} {r7 : Bool} (h : m_l_Same a1 a2 = some r7) : CtrG PP 26 [] [qD a1, rqD a2] [] (D.bool r7) := by
  unfold m_l_Same at h
  refine .of Go.Proofs.Tryz.func26 rfl (by kernel_rfl) rfl rfl rfl rfl rfl rfl (fun A w0 L b => ?_)
  show Ok PP _ [(0, qD a1), (1, rqD a2)] [] _ _
  refine .reg (.bxA rfl rfl <| .bxA rfl rfl <| .asg rfl <| .nil) rfl ?_
  obtain ⟨v3, e4, h⟩ := bind_some h
  obtain ⟨v5, e6, h⟩ := bind_some h
  refine .regD hmix (.ldE (qC (a1)) rfl rfl ly_exact_Q rfl rfl <| .callG (Q_text e4) ⟨rfl, trivial⟩ trivial trivial <| .ldE (rqC (a2)) rfl rfl ly_ambleref01_Q rfl rfl <| .callG (R_text e6) ⟨rfl, trivial⟩ trivial trivial <| .teq rfl rfl <| .asg rfl <| .nil) rfl (by kernel_rfl) ?_
  cases h
  refine .retG (fun _ _ hb => hb) rfl (.cons (.tmp rfl) .nil) (.refl _) trivial trivial
def m_l_num (a1 : List UInt8) : Option Rat := (q_parse a1).bind fun (v2, v3) => some v2
theorem C_l_num {a1 : List UInt8} {r5 : Rat} (h : m_l_num a1 = some r5) : CtrG PP 100 [] [strD a1] [] (qD r5) := by
  unfold m_l_num at h
  refine .of Go.Proofs.Tryz.func100 rfl (by kernel_rfl) rfl rfl rfl rfl rfl rfl (fun A w0 L b => ?_)
  show Ok PP _ [(0, strD a1)] [] _ _
  refine .reg (.alL (qC (0)) z_exact_Q ⟨zq1, zq2, zq3, trivial⟩ rfl <| .nil) rfl ?_
  obtain ⟨⟨v2, v3⟩, e4, h⟩ := bind_some h
  refine .reg (.mv rfl <| .callG (Q_parse e4) ⟨rfl, trivial⟩ trivial trivial <| .mv rfl <| .ext rfl rfl <| .ext rfl rfl <| .alL (qC (0)) z_exact_Q ⟨zq1, zq2, zq3, trivial⟩ rfl <| .stE (qC (v2)) rfl rfl rfl ly_exact_Q rfl rfl rfl <| .asg rfl <| .nil) rfl ?_
  refine .reg (.ldE (qC (v2)) rfl rfl ly_exact_Q rfl rfl <| .stE (qC (v2)) rfl rfl rfl ly_exact_Q rfl rfl rfl <| .nil) rfl ?_
  cases h
  refine .retG (fun _ _ hb => hb) rfl (.cons (.agg rfl rfl ly_exact_Q rfl) .nil) (.refl _) trivial trivial
def m_l_is (a1 : Rat) (a2 : List UInt8) : Option Bool := (q_text a1).bind fun v3 => some (v3 == a2)
theorem C_l_is {a1 : Rat} {a2 : List UInt8} {r5 : Bool} (h : m_l_is a1 a2 = some r5) : CtrG PP 141 [] [qD a1, strD a2] [] (D.bool r5) := by
  unfold m_l_is at h
  refine .of Go.Proofs.Tryz.func141 rfl (by kernel_rfl) rfl rfl rfl rfl rfl rfl (fun A w0 L b => ?_)
  show Ok PP _ [(0, qD a1), (1, strD a2)] [] _ _
  refine .reg (.bxA rfl rfl <| .asg rfl <| .nil) rfl ?_
  obtain ⟨v3, e4, h⟩ := bind_some h
  refine .reg (.ldE (qC (a1)) rfl rfl ly_exact_Q rfl rfl <| .callG (Q_text e4) ⟨rfl, trivial⟩ trivial trivial <| .mv rfl <| .teq rfl rfl <| .asg rfl <| .nil) rfl ?_
  cases h
  refine .retG (fun _ _ hb => hb) rfl (.cons (.tmp rfl) .nil) (.refl _) trivial trivial
def m_l_awake  : Option Bool := (q_parse ([45, 49, 46, 50, 53, 48] : List UInt8)).bind fun (v1, v2) => (q_parse ([54, 47, 52] : List UInt8)).bind fun (v4, v5) => (m_l_num ([51, 53, 53, 47, 49, 49, 51] : List UInt8)).bind fun v7 => (q_near v7 7).bind fun (v9, v10) => (q_int 2).bind fun v12 => (q_root v12 3).bind fun (v14, v15) => (m_l_num ([49, 47, 50] : List UInt8)).bind fun v17 => (m_Turn v17).bind fun (v19, v20) => (if (v2 == 0) = true then (if (v5 == 0) = true then (if (v10 == 0) = true then (if (v15 == 0) = true then (m_l_is v1 ([45, 53, 47, 52] : List UInt8)).bind fun v26 => (if v26 = true then (m_l_is v4 ([51, 47, 50] : List UInt8)).bind fun v29 => (if v29 = true then (m_l_is v9 ([50, 50, 47, 55] : List UInt8)).bind fun v32 => (if v32 = true then (m_l_is v14 ([49, 49, 47, 56] : List UInt8)).bind fun v35 => (if v35 = true then (m_l_is v19 ([51, 47, 53] : List UInt8)).bind fun v38 => (if v38 = true then (m_l_is v20 ([52, 47, 53] : List UInt8)).bind fun v41 => (if v41 = true then (q_add v1 v4).bind fun v44 => (m_l_is v44 ([49, 47, 52] : List UInt8)).bind fun v46 => (if v46 = true then (q_mul v1 v4).bind fun v49 => (m_l_is v49 ([45, 49, 53, 47, 56] : List UInt8)).bind fun v51 => some v51 else some false) else some false) else some false) else some false) else some false) else some false) else some false) else some false) else some false) else some false) else some false)
theorem C_l_awake {r53 : Bool} (h : m_l_awake = some r53) : CtrG PP 22 [] [] [] (D.bool r53) := by
  unfold m_l_awake at h
  refine .of Go.Proofs.Tryz.func22 rfl (by kernel_rfl) rfl rfl rfl rfl rfl rfl (fun A w0 L b => ?_)
  show Ok PP _ [] [] _ _
  refine .reg (.asg rfl <| .nil) rfl ?_
  obtain ⟨⟨v1, v2⟩, e3, h⟩ := bind_some h
  refine .reg (.callG (Q_parse e3) ⟨rfl, trivial⟩ trivial trivial <| .mv rfl <| .ext rfl rfl <| .ext rfl rfl <| .alL (qC (0)) z_exact_Q ⟨zq1, zq2, zq3, trivial⟩ rfl <| .stE (qC (v1)) rfl rfl rfl ly_exact_Q rfl rfl rfl <| .asg rfl <| .nil) rfl ?_
  obtain ⟨⟨v4, v5⟩, e6, h⟩ := bind_some h
  refine .reg (.callG (Q_parse e6) ⟨rfl, trivial⟩ trivial trivial <| .mv rfl <| .ext rfl rfl <| .ext rfl rfl <| .alL (qC (0)) z_exact_Q ⟨zq1, zq2, zq3, trivial⟩ rfl <| .stE (qC (v4)) rfl rfl rfl ly_exact_Q rfl rfl rfl <| .asg rfl <| .nil) rfl ?_
  obtain ⟨v7, e8, h⟩ := bind_some h
  obtain ⟨⟨v9, v10⟩, e11, h⟩ := bind_some h
  refine .reg (.callG (C_l_num e8) ⟨rfl, trivial⟩ trivial trivial <| .callG (Q_near e11) ⟨rfl, rfl, trivial⟩ trivial trivial <| .mv rfl <| .ext rfl rfl <| .ext rfl rfl <| .alL (qC (0)) z_exact_Q ⟨zq1, zq2, zq3, trivial⟩ rfl <| .stE (qC (v9)) rfl rfl rfl ly_exact_Q rfl rfl rfl <| .asg rfl <| .nil) rfl ?_
  obtain ⟨v12, e13, h⟩ := bind_some h
  obtain ⟨⟨v14, v15⟩, e16, h⟩ := bind_some h
  refine .reg (.callG (Q_int e13) ⟨rfl, trivial⟩ trivial trivial <| .callG (Q_root e16) ⟨rfl, rfl, trivial⟩ trivial trivial <| .mv rfl <| .ext rfl rfl <| .ext rfl rfl <| .alL (qC (0)) z_exact_Q ⟨zq1, zq2, zq3, trivial⟩ rfl <| .stE (qC (v14)) rfl rfl rfl ly_exact_Q rfl rfl rfl <| .asg rfl <| .nil) rfl ?_
  obtain ⟨v17, e18, h⟩ := bind_some h
  obtain ⟨⟨v19, v20⟩, e21, h⟩ := bind_some h
  refine .reg (.callG (C_l_num e18) ⟨rfl, trivial⟩ trivial trivial <| .callG (C_Turn e21) ⟨rfl, trivial⟩ trivial trivial <| .alL (qC (0) ++ qC (0)) z_exact_Rot ⟨zq1, zq2, zq3, zq1, zq2, zq3, trivial⟩ rfl <| .stE (qC (v19) ++ qC (v20)) rfl rfl rfl ly_exact_Rot rfl rfl rfl <| .nil) rfl ?_
  by_cases c22 : (v2 == 0) = true
  · replace h := ite_pos_some c22 h
    by_cases c23 : (v5 == 0) = true
    · replace h := ite_pos_some c23 h
      by_cases c24 : (v10 == 0) = true
      · replace h := ite_pos_some c24 h
        by_cases c25 : (v15 == 0) = true
        · replace h := ite_pos_some c25 h
          obtain ⟨v26, e27, h⟩ := bind_some h
          by_cases c28 : v26 = true
          · replace h := ite_pos_some c28 h
            obtain ⟨v29, e30, h⟩ := bind_some h
            by_cases c31 : v29 = true
            · replace h := ite_pos_some c31 h
              obtain ⟨v32, e33, h⟩ := bind_some h
              by_cases c34 : v32 = true
              · replace h := ite_pos_some c34 h
                obtain ⟨v35, e36, h⟩ := bind_some h
                by_cases c37 : v35 = true
                · replace h := ite_pos_some c37 h
                  obtain ⟨v38, e39, h⟩ := bind_some h
                  by_cases c40 : v38 = true
                  · replace h := ite_pos_some c40 h
                    obtain ⟨v41, e42, h⟩ := bind_some h
                    by_cases c43 : v41 = true
                    · replace h := ite_pos_some c43 h
                      obtain ⟨v44, e45, h⟩ := bind_some h
                      obtain ⟨v46, e47, h⟩ := bind_some h
                      by_cases c48 : v46 = true
                      · replace h := ite_pos_some c48 h
                        obtain ⟨v49, e50, h⟩ := bind_some h
                        obtain ⟨v51, e52, h⟩ := bind_some h
                        refine .reg (.mv rfl <| .cm rfl rfl rfl <| .mv rfl <| .gYt rfl rfl rfl c22 <| .mv rfl <| .gYt rfl rfl rfl c22 <| .cm rfl rfl rfl <| .pkTb rfl c22 rfl <| .mv rfl <| .gYt rfl rfl rfl c23 <| .mv rfl <| .gYt rfl rfl rfl c23 <| .cm rfl rfl rfl <| .pkTb rfl c23 rfl <| .mv rfl <| .gYt rfl rfl rfl c24 <| .mv rfl <| .gYt rfl rfl rfl c24 <| .cm rfl rfl rfl <| .pkTb rfl c24 rfl <| .mv rfl <| .gYt rfl rfl rfl c25 <| .ldE (qC (v1)) rfl rfl ly_exact_Q rfl rfl <| .gYt rfl rfl rfl c25 <| .callG (C_l_is e27) ⟨rfl, rfl, trivial⟩ trivial trivial <| .pkTb rfl c25 rfl <| .mv rfl <| .gYt rfl rfl rfl c28 <| .ldE (qC (v4)) rfl rfl ly_exact_Q rfl rfl <| .gYt rfl rfl rfl c28 <| .callG (C_l_is e30) ⟨rfl, rfl, trivial⟩ trivial trivial <| .pkTb rfl c28 rfl <| .mv rfl <| .gYt rfl rfl rfl c31 <| .ldE (qC (v9)) rfl rfl ly_exact_Q rfl rfl <| .gYt rfl rfl rfl c31 <| .callG (C_l_is e33) ⟨rfl, rfl, trivial⟩ trivial trivial <| .pkTb rfl c31 rfl <| .mv rfl <| .gYt rfl rfl rfl c34 <| .ldE (qC (v14)) rfl rfl ly_exact_Q rfl rfl <| .gYt rfl rfl rfl c34 <| .callG (C_l_is e36) ⟨rfl, rfl, trivial⟩ trivial trivial <| .pkTb rfl c34 rfl <| .mv rfl <| .gYt rfl rfl rfl c37 <| .fa rfl f_exact_Rot_0 <| .gYt rfl rfl rfl c37 <| .ldE (qC (v19)) rfl rfl ly_exact_Q rfl rfl <| .gYt rfl rfl rfl c37 <| .callG (C_l_is e39) ⟨rfl, rfl, trivial⟩ trivial trivial <| .pkTb rfl c37 rfl <| .mv rfl <| .gYt rfl rfl rfl c40 <| .fa rfl f_exact_Rot_1 <| .gYt rfl rfl rfl c40 <| .ldE (qC (v20)) rfl rfl ly_exact_Q rfl rfl <| .gYt rfl rfl rfl c40 <| .callG (C_l_is e42) ⟨rfl, rfl, trivial⟩ trivial trivial <| .pkTb rfl c40 rfl <| .mv rfl <| .gYt rfl rfl rfl c43 <| .ldE (qC (v1)) rfl rfl ly_exact_Q rfl rfl <| .gYt rfl rfl rfl c43 <| .ldE (qC (v4)) rfl rfl ly_exact_Q rfl rfl <| .gYt rfl rfl rfl c43 <| .callG (Q_add e45) ⟨rfl, rfl, trivial⟩ trivial trivial <| .gYt rfl rfl rfl c43 <| .callG (C_l_is e47) ⟨rfl, rfl, trivial⟩ trivial trivial <| .pkTb rfl c43 rfl <| .mv rfl <| .gYt rfl rfl rfl c48 <| .ldE (qC (v1)) rfl rfl ly_exact_Q rfl rfl <| .gYt rfl rfl rfl c48 <| .ldE (qC (v4)) rfl rfl ly_exact_Q rfl rfl <| .gYt rfl rfl rfl c48 <| .callG (Q_mul e50) ⟨rfl, rfl, trivial⟩ trivial trivial <| .gYt rfl rfl rfl c48 <| .callG (C_l_is e52) ⟨rfl, rfl, trivial⟩ trivial trivial <| .pkTb rfl c48 rfl <| .asg rfl <| .nil) rfl ?_
                        cases h
                        refine .retG (fun _ _ hb => hb) rfl (.cons (.tmp rfl) .nil) (.refl _) trivial trivial
                      · replace h := ite_neg_some c48 h
                        refine .reg (.mv rfl <| .cm rfl rfl rfl <| .mv rfl <| .gYt rfl rfl rfl c22 <| .mv rfl <| .gYt rfl rfl rfl c22 <| .cm rfl rfl rfl <| .pkTb rfl c22 rfl <| .mv rfl <| .gYt rfl rfl rfl c23 <| .mv rfl <| .gYt rfl rfl rfl c23 <| .cm rfl rfl rfl <| .pkTb rfl c23 rfl <| .mv rfl <| .gYt rfl rfl rfl c24 <| .mv rfl <| .gYt rfl rfl rfl c24 <| .cm rfl rfl rfl <| .pkTb rfl c24 rfl <| .mv rfl <| .gYt rfl rfl rfl c25 <| .ldE (qC (v1)) rfl rfl ly_exact_Q rfl rfl <| .gYt rfl rfl rfl c25 <| .callG (C_l_is e27) ⟨rfl, rfl, trivial⟩ trivial trivial <| .pkTb rfl c25 rfl <| .mv rfl <| .gYt rfl rfl rfl c28 <| .ldE (qC (v4)) rfl rfl ly_exact_Q rfl rfl <| .gYt rfl rfl rfl c28 <| .callG (C_l_is e30) ⟨rfl, rfl, trivial⟩ trivial trivial <| .pkTb rfl c28 rfl <| .mv rfl <| .gYt rfl rfl rfl c31 <| .ldE (qC (v9)) rfl rfl ly_exact_Q rfl rfl <| .gYt rfl rfl rfl c31 <| .callG (C_l_is e33) ⟨rfl, rfl, trivial⟩ trivial trivial <| .pkTb rfl c31 rfl <| .mv rfl <| .gYt rfl rfl rfl c34 <| .ldE (qC (v14)) rfl rfl ly_exact_Q rfl rfl <| .gYt rfl rfl rfl c34 <| .callG (C_l_is e36) ⟨rfl, rfl, trivial⟩ trivial trivial <| .pkTb rfl c34 rfl <| .mv rfl <| .gYt rfl rfl rfl c37 <| .fa rfl f_exact_Rot_0 <| .gYt rfl rfl rfl c37 <| .ldE (qC (v19)) rfl rfl ly_exact_Q rfl rfl <| .gYt rfl rfl rfl c37 <| .callG (C_l_is e39) ⟨rfl, rfl, trivial⟩ trivial trivial <| .pkTb rfl c37 rfl <| .mv rfl <| .gYt rfl rfl rfl c40 <| .fa rfl f_exact_Rot_1 <| .gYt rfl rfl rfl c40 <| .ldE (qC (v20)) rfl rfl ly_exact_Q rfl rfl <| .gYt rfl rfl rfl c40 <| .callG (C_l_is e42) ⟨rfl, rfl, trivial⟩ trivial trivial <| .pkTb rfl c40 rfl <| .mv rfl <| .gYt rfl rfl rfl c43 <| .ldE (qC (v1)) rfl rfl ly_exact_Q rfl rfl <| .gYt rfl rfl rfl c43 <| .ldE (qC (v4)) rfl rfl ly_exact_Q rfl rfl <| .gYt rfl rfl rfl c43 <| .callG (Q_add e45) ⟨rfl, rfl, trivial⟩ trivial trivial <| .gYt rfl rfl rfl c43 <| .callG (C_l_is e47) ⟨rfl, rfl, trivial⟩ trivial trivial <| .pkTb rfl c43 rfl <| .mv rfl <| .gNt rfl rfl rfl c48 <| .gNt rfl rfl rfl c48 <| .gNt rfl rfl rfl c48 <| .gNt rfl rfl rfl c48 <| .pkFb rfl c48 rfl <| .asg rfl <| .nil) rfl ?_
                        cases h
                        refine .retG (fun _ _ hb => hb) rfl (.cons (.tmp rfl) .nil) (.refl _) trivial trivial
                    · replace h := ite_neg_some c43 h
                      refine .reg (.mv rfl <| .cm rfl rfl rfl <| .mv rfl <| .gYt rfl rfl rfl c22 <| .mv rfl <| .gYt rfl rfl rfl c22 <| .cm rfl rfl rfl <| .pkTb rfl c22 rfl <| .mv rfl <| .gYt rfl rfl rfl c23 <| .mv rfl <| .gYt rfl rfl rfl c23 <| .cm rfl rfl rfl <| .pkTb rfl c23 rfl <| .mv rfl <| .gYt rfl rfl rfl c24 <| .mv rfl <| .gYt rfl rfl rfl c24 <| .cm rfl rfl rfl <| .pkTb rfl c24 rfl <| .mv rfl <| .gYt rfl rfl rfl c25 <| .ldE (qC (v1)) rfl rfl ly_exact_Q rfl rfl <| .gYt rfl rfl rfl c25 <| .callG (C_l_is e27) ⟨rfl, rfl, trivial⟩ trivial trivial <| .pkTb rfl c25 rfl <| .mv rfl <| .gYt rfl rfl rfl c28 <| .ldE (qC (v4)) rfl rfl ly_exact_Q rfl rfl <| .gYt rfl rfl rfl c28 <| .callG (C_l_is e30) ⟨rfl, rfl, trivial⟩ trivial trivial <| .pkTb rfl c28 rfl <| .mv rfl <| .gYt rfl rfl rfl c31 <| .ldE (qC (v9)) rfl rfl ly_exact_Q rfl rfl <| .gYt rfl rfl rfl c31 <| .callG (C_l_is e33) ⟨rfl, rfl, trivial⟩ trivial trivial <| .pkTb rfl c31 rfl <| .mv rfl <| .gYt rfl rfl rfl c34 <| .ldE (qC (v14)) rfl rfl ly_exact_Q rfl rfl <| .gYt rfl rfl rfl c34 <| .callG (C_l_is e36) ⟨rfl, rfl, trivial⟩ trivial trivial <| .pkTb rfl c34 rfl <| .mv rfl <| .gYt rfl rfl rfl c37 <| .fa rfl f_exact_Rot_0 <| .gYt rfl rfl rfl c37 <| .ldE (qC (v19)) rfl rfl ly_exact_Q rfl rfl <| .gYt rfl rfl rfl c37 <| .callG (C_l_is e39) ⟨rfl, rfl, trivial⟩ trivial trivial <| .pkTb rfl c37 rfl <| .mv rfl <| .gYt rfl rfl rfl c40 <| .fa rfl f_exact_Rot_1 <| .gYt rfl rfl rfl c40 <| .ldE (qC (v20)) rfl rfl ly_exact_Q rfl rfl <| .gYt rfl rfl rfl c40 <| .callG (C_l_is e42) ⟨rfl, rfl, trivial⟩ trivial trivial <| .pkTb rfl c40 rfl <| .mv rfl <| .gNt rfl rfl rfl c43 <| .gNt rfl rfl rfl c43 <| .gNt rfl rfl rfl c43 <| .gNt rfl rfl rfl c43 <| .pkFb rfl c43 rfl <| .mv rfl <| .gNt rfl rfl rfl (by decide) <| .gNt rfl rfl rfl (by decide) <| .gNt rfl rfl rfl (by decide) <| .gNt rfl rfl rfl (by decide) <| .pkFb rfl (by decide) rfl <| .asg rfl <| .nil) rfl ?_
                      cases h
                      refine .retG (fun _ _ hb => hb) rfl (.cons (.tmp rfl) .nil) (.refl _) trivial trivial
                  · replace h := ite_neg_some c40 h
                    refine .reg (.mv rfl <| .cm rfl rfl rfl <| .mv rfl <| .gYt rfl rfl rfl c22 <| .mv rfl <| .gYt rfl rfl rfl c22 <| .cm rfl rfl rfl <| .pkTb rfl c22 rfl <| .mv rfl <| .gYt rfl rfl rfl c23 <| .mv rfl <| .gYt rfl rfl rfl c23 <| .cm rfl rfl rfl <| .pkTb rfl c23 rfl <| .mv rfl <| .gYt rfl rfl rfl c24 <| .mv rfl <| .gYt rfl rfl rfl c24 <| .cm rfl rfl rfl <| .pkTb rfl c24 rfl <| .mv rfl <| .gYt rfl rfl rfl c25 <| .ldE (qC (v1)) rfl rfl ly_exact_Q rfl rfl <| .gYt rfl rfl rfl c25 <| .callG (C_l_is e27) ⟨rfl, rfl, trivial⟩ trivial trivial <| .pkTb rfl c25 rfl <| .mv rfl <| .gYt rfl rfl rfl c28 <| .ldE (qC (v4)) rfl rfl ly_exact_Q rfl rfl <| .gYt rfl rfl rfl c28 <| .callG (C_l_is e30) ⟨rfl, rfl, trivial⟩ trivial trivial <| .pkTb rfl c28 rfl <| .mv rfl <| .gYt rfl rfl rfl c31 <| .ldE (qC (v9)) rfl rfl ly_exact_Q rfl rfl <| .gYt rfl rfl rfl c31 <| .callG (C_l_is e33) ⟨rfl, rfl, trivial⟩ trivial trivial <| .pkTb rfl c31 rfl <| .mv rfl <| .gYt rfl rfl rfl c34 <| .ldE (qC (v14)) rfl rfl ly_exact_Q rfl rfl <| .gYt rfl rfl rfl c34 <| .callG (C_l_is e36) ⟨rfl, rfl, trivial⟩ trivial trivial <| .pkTb rfl c34 rfl <| .mv rfl <| .gYt rfl rfl rfl c37 <| .fa rfl f_exact_Rot_0 <| .gYt rfl rfl rfl c37 <| .ldE (qC (v19)) rfl rfl ly_exact_Q rfl rfl <| .gYt rfl rfl rfl c37 <| .callG (C_l_is e39) ⟨rfl, rfl, trivial⟩ trivial trivial <| .pkTb rfl c37 rfl <| .mv rfl <| .gNt rfl rfl rfl c40 <| .gNt rfl rfl rfl c40 <| .gNt rfl rfl rfl c40 <| .pkFb rfl c40 rfl <| .mv rfl <| .gNt rfl rfl rfl (by decide) <| .gNt rfl rfl rfl (by decide) <| .gNt rfl rfl rfl (by decide) <| .gNt rfl rfl rfl (by decide) <| .pkFb rfl (by decide) rfl <| .mv rfl <| .gNt rfl rfl rfl (by decide) <| .gNt rfl rfl rfl (by decide) <| .gNt rfl rfl rfl (by decide) <| .gNt rfl rfl rfl (by decide) <| .pkFb rfl (by decide) rfl <| .asg rfl <| .nil) rfl ?_
                    cases h
                    refine .retG (fun _ _ hb => hb) rfl (.cons (.tmp rfl) .nil) (.refl _) trivial trivial
                · replace h := ite_neg_some c37 h
                  refine .reg (.mv rfl <| .cm rfl rfl rfl <| .mv rfl <| .gYt rfl rfl rfl c22 <| .mv rfl <| .gYt rfl rfl rfl c22 <| .cm rfl rfl rfl <| .pkTb rfl c22 rfl <| .mv rfl <| .gYt rfl rfl rfl c23 <| .mv rfl <| .gYt rfl rfl rfl c23 <| .cm rfl rfl rfl <| .pkTb rfl c23 rfl <| .mv rfl <| .gYt rfl rfl rfl c24 <| .mv rfl <| .gYt rfl rfl rfl c24 <| .cm rfl rfl rfl <| .pkTb rfl c24 rfl <| .mv rfl <| .gYt rfl rfl rfl c25 <| .ldE (qC (v1)) rfl rfl ly_exact_Q rfl rfl <| .gYt rfl rfl rfl c25 <| .callG (C_l_is e27) ⟨rfl, rfl, trivial⟩ trivial trivial <| .pkTb rfl c25 rfl <| .mv rfl <| .gYt rfl rfl rfl c28 <| .ldE (qC (v4)) rfl rfl ly_exact_Q rfl rfl <| .gYt rfl rfl rfl c28 <| .callG (C_l_is e30) ⟨rfl, rfl, trivial⟩ trivial trivial <| .pkTb rfl c28 rfl <| .mv rfl <| .gYt rfl rfl rfl c31 <| .ldE (qC (v9)) rfl rfl ly_exact_Q rfl rfl <| .gYt rfl rfl rfl c31 <| .callG (C_l_is e33) ⟨rfl, rfl, trivial⟩ trivial trivial <| .pkTb rfl c31 rfl <| .mv rfl <| .gYt rfl rfl rfl c34 <| .ldE (qC (v14)) rfl rfl ly_exact_Q rfl rfl <| .gYt rfl rfl rfl c34 <| .callG (C_l_is e36) ⟨rfl, rfl, trivial⟩ trivial trivial <| .pkTb rfl c34 rfl <| .mv rfl <| .gNt rfl rfl rfl c37 <| .gNt rfl rfl rfl c37 <| .gNt rfl rfl rfl c37 <| .pkFb rfl c37 rfl <| .mv rfl <| .gNt rfl rfl rfl (by decide) <| .gNt rfl rfl rfl (by decide) <| .gNt rfl rfl rfl (by decide) <| .pkFb rfl (by decide) rfl <| .mv rfl <| .gNt rfl rfl rfl (by decide) <| .gNt rfl rfl rfl (by decide) <| .gNt rfl rfl rfl (by decide) <| .gNt rfl rfl rfl (by decide) <| .pkFb rfl (by decide) rfl <| .mv rfl <| .gNt rfl rfl rfl (by decide) <| .gNt rfl rfl rfl (by decide) <| .gNt rfl rfl rfl (by decide) <| .gNt rfl rfl rfl (by decide) <| .pkFb rfl (by decide) rfl <| .asg rfl <| .nil) rfl ?_
                  cases h
                  refine .retG (fun _ _ hb => hb) rfl (.cons (.tmp rfl) .nil) (.refl _) trivial trivial
              · replace h := ite_neg_some c34 h
                refine .reg (.mv rfl <| .cm rfl rfl rfl <| .mv rfl <| .gYt rfl rfl rfl c22 <| .mv rfl <| .gYt rfl rfl rfl c22 <| .cm rfl rfl rfl <| .pkTb rfl c22 rfl <| .mv rfl <| .gYt rfl rfl rfl c23 <| .mv rfl <| .gYt rfl rfl rfl c23 <| .cm rfl rfl rfl <| .pkTb rfl c23 rfl <| .mv rfl <| .gYt rfl rfl rfl c24 <| .mv rfl <| .gYt rfl rfl rfl c24 <| .cm rfl rfl rfl <| .pkTb rfl c24 rfl <| .mv rfl <| .gYt rfl rfl rfl c25 <| .ldE (qC (v1)) rfl rfl ly_exact_Q rfl rfl <| .gYt rfl rfl rfl c25 <| .callG (C_l_is e27) ⟨rfl, rfl, trivial⟩ trivial trivial <| .pkTb rfl c25 rfl <| .mv rfl <| .gYt rfl rfl rfl c28 <| .ldE (qC (v4)) rfl rfl ly_exact_Q rfl rfl <| .gYt rfl rfl rfl c28 <| .callG (C_l_is e30) ⟨rfl, rfl, trivial⟩ trivial trivial <| .pkTb rfl c28 rfl <| .mv rfl <| .gYt rfl rfl rfl c31 <| .ldE (qC (v9)) rfl rfl ly_exact_Q rfl rfl <| .gYt rfl rfl rfl c31 <| .callG (C_l_is e33) ⟨rfl, rfl, trivial⟩ trivial trivial <| .pkTb rfl c31 rfl <| .mv rfl <| .gNt rfl rfl rfl c34 <| .gNt rfl rfl rfl c34 <| .pkFb rfl c34 rfl <| .mv rfl <| .gNt rfl rfl rfl (by decide) <| .gNt rfl rfl rfl (by decide) <| .gNt rfl rfl rfl (by decide) <| .pkFb rfl (by decide) rfl <| .mv rfl <| .gNt rfl rfl rfl (by decide) <| .gNt rfl rfl rfl (by decide) <| .gNt rfl rfl rfl (by decide) <| .pkFb rfl (by decide) rfl <| .mv rfl <| .gNt rfl rfl rfl (by decide) <| .gNt rfl rfl rfl (by decide) <| .gNt rfl rfl rfl (by decide) <| .gNt rfl rfl rfl (by decide) <| .pkFb rfl (by decide) rfl <| .mv rfl <| .gNt rfl rfl rfl (by decide) <| .gNt rfl rfl rfl (by decide) <| .gNt rfl rfl rfl (by decide) <| .gNt rfl rfl rfl (by decide) <| .pkFb rfl (by decide) rfl <| .asg rfl <| .nil) rfl ?_
                cases h
                refine .retG (fun _ _ hb => hb) rfl (.cons (.tmp rfl) .nil) (.refl _) trivial trivial
            · replace h := ite_neg_some c31 h
              refine .reg (.mv rfl <| .cm rfl rfl rfl <| .mv rfl <| .gYt rfl rfl rfl c22 <| .mv rfl <| .gYt rfl rfl rfl c22 <| .cm rfl rfl rfl <| .pkTb rfl c22 rfl <| .mv rfl <| .gYt rfl rfl rfl c23 <| .mv rfl <| .gYt rfl rfl rfl c23 <| .cm rfl rfl rfl <| .pkTb rfl c23 rfl <| .mv rfl <| .gYt rfl rfl rfl c24 <| .mv rfl <| .gYt rfl rfl rfl c24 <| .cm rfl rfl rfl <| .pkTb rfl c24 rfl <| .mv rfl <| .gYt rfl rfl rfl c25 <| .ldE (qC (v1)) rfl rfl ly_exact_Q rfl rfl <| .gYt rfl rfl rfl c25 <| .callG (C_l_is e27) ⟨rfl, rfl, trivial⟩ trivial trivial <| .pkTb rfl c25 rfl <| .mv rfl <| .gYt rfl rfl rfl c28 <| .ldE (qC (v4)) rfl rfl ly_exact_Q rfl rfl <| .gYt rfl rfl rfl c28 <| .callG (C_l_is e30) ⟨rfl, rfl, trivial⟩ trivial trivial <| .pkTb rfl c28 rfl <| .mv rfl <| .gNt rfl rfl rfl c31 <| .gNt rfl rfl rfl c31 <| .pkFb rfl c31 rfl <| .mv rfl <| .gNt rfl rfl rfl (by decide) <| .gNt rfl rfl rfl (by decide) <| .pkFb rfl (by decide) rfl <| .mv rfl <| .gNt rfl rfl rfl (by decide) <| .gNt rfl rfl rfl (by decide) <| .gNt rfl rfl rfl (by decide) <| .pkFb rfl (by decide) rfl <| .mv rfl <| .gNt rfl rfl rfl (by decide) <| .gNt rfl rfl rfl (by decide) <| .gNt rfl rfl rfl (by decide) <| .pkFb rfl (by decide) rfl <| .mv rfl <| .gNt rfl rfl rfl (by decide) <| .gNt rfl rfl rfl (by decide) <| .gNt rfl rfl rfl (by decide) <| .gNt rfl rfl rfl (by decide) <| .pkFb rfl (by decide) rfl <| .mv rfl <| .gNt rfl rfl rfl (by decide) <| .gNt rfl rfl rfl (by decide) <| .gNt rfl rfl rfl (by decide) <| .gNt rfl rfl rfl (by decide) <| .pkFb rfl (by decide) rfl <| .asg rfl <| .nil) rfl ?_
              cases h
              refine .retG (fun _ _ hb => hb) rfl (.cons (.tmp rfl) .nil) (.refl _) trivial trivial
          · replace h := ite_neg_some c28 h
            refine .reg (.mv rfl <| .cm rfl rfl rfl <| .mv rfl <| .gYt rfl rfl rfl c22 <| .mv rfl <| .gYt rfl rfl rfl c22 <| .cm rfl rfl rfl <| .pkTb rfl c22 rfl <| .mv rfl <| .gYt rfl rfl rfl c23 <| .mv rfl <| .gYt rfl rfl rfl c23 <| .cm rfl rfl rfl <| .pkTb rfl c23 rfl <| .mv rfl <| .gYt rfl rfl rfl c24 <| .mv rfl <| .gYt rfl rfl rfl c24 <| .cm rfl rfl rfl <| .pkTb rfl c24 rfl <| .mv rfl <| .gYt rfl rfl rfl c25 <| .ldE (qC (v1)) rfl rfl ly_exact_Q rfl rfl <| .gYt rfl rfl rfl c25 <| .callG (C_l_is e27) ⟨rfl, rfl, trivial⟩ trivial trivial <| .pkTb rfl c25 rfl <| .mv rfl <| .gNt rfl rfl rfl c28 <| .gNt rfl rfl rfl c28 <| .pkFb rfl c28 rfl <| .mv rfl <| .gNt rfl rfl rfl (by decide) <| .gNt rfl rfl rfl (by decide) <| .pkFb rfl (by decide) rfl <| .mv rfl <| .gNt rfl rfl rfl (by decide) <| .gNt rfl rfl rfl (by decide) <| .pkFb rfl (by decide) rfl <| .mv rfl <| .gNt rfl rfl rfl (by decide) <| .gNt rfl rfl rfl (by decide) <| .gNt rfl rfl rfl (by decide) <| .pkFb rfl (by decide) rfl <| .mv rfl <| .gNt rfl rfl rfl (by decide) <| .gNt rfl rfl rfl (by decide) <| .gNt rfl rfl rfl (by decide) <| .pkFb rfl (by decide) rfl <| .mv rfl <| .gNt rfl rfl rfl (by decide) <| .gNt rfl rfl rfl (by decide) <| .gNt rfl rfl rfl (by decide) <| .gNt rfl rfl rfl (by decide) <| .pkFb rfl (by decide) rfl <| .mv rfl <| .gNt rfl rfl rfl (by decide) <| .gNt rfl rfl rfl (by decide) <| .gNt rfl rfl rfl (by decide) <| .gNt rfl rfl rfl (by decide) <| .pkFb rfl (by decide) rfl <| .asg rfl <| .nil) rfl ?_
            cases h
            refine .retG (fun _ _ hb => hb) rfl (.cons (.tmp rfl) .nil) (.refl _) trivial trivial
        · replace h := ite_neg_some c25 h
          refine .reg (.mv rfl <| .cm rfl rfl rfl <| .mv rfl <| .gYt rfl rfl rfl c22 <| .mv rfl <| .gYt rfl rfl rfl c22 <| .cm rfl rfl rfl <| .pkTb rfl c22 rfl <| .mv rfl <| .gYt rfl rfl rfl c23 <| .mv rfl <| .gYt rfl rfl rfl c23 <| .cm rfl rfl rfl <| .pkTb rfl c23 rfl <| .mv rfl <| .gYt rfl rfl rfl c24 <| .mv rfl <| .gYt rfl rfl rfl c24 <| .cm rfl rfl rfl <| .pkTb rfl c24 rfl <| .mv rfl <| .gNt rfl rfl rfl c25 <| .gNt rfl rfl rfl c25 <| .pkFb rfl c25 rfl <| .mv rfl <| .gNt rfl rfl rfl (by decide) <| .gNt rfl rfl rfl (by decide) <| .pkFb rfl (by decide) rfl <| .mv rfl <| .gNt rfl rfl rfl (by decide) <| .gNt rfl rfl rfl (by decide) <| .pkFb rfl (by decide) rfl <| .mv rfl <| .gNt rfl rfl rfl (by decide) <| .gNt rfl rfl rfl (by decide) <| .pkFb rfl (by decide) rfl <| .mv rfl <| .gNt rfl rfl rfl (by decide) <| .gNt rfl rfl rfl (by decide) <| .gNt rfl rfl rfl (by decide) <| .pkFb rfl (by decide) rfl <| .mv rfl <| .gNt rfl rfl rfl (by decide) <| .gNt rfl rfl rfl (by decide) <| .gNt rfl rfl rfl (by decide) <| .pkFb rfl (by decide) rfl <| .mv rfl <| .gNt rfl rfl rfl (by decide) <| .gNt rfl rfl rfl (by decide) <| .gNt rfl rfl rfl (by decide) <| .gNt rfl rfl rfl (by decide) <| .pkFb rfl (by decide) rfl <| .mv rfl <| .gNt rfl rfl rfl (by decide) <| .gNt rfl rfl rfl (by decide) <| .gNt rfl rfl rfl (by decide) <| .gNt rfl rfl rfl (by decide) <| .pkFb rfl (by decide) rfl <| .asg rfl <| .nil) rfl ?_
          cases h
          refine .retG (fun _ _ hb => hb) rfl (.cons (.tmp rfl) .nil) (.refl _) trivial trivial
      · replace h := ite_neg_some c24 h
        refine .reg (.mv rfl <| .cm rfl rfl rfl <| .mv rfl <| .gYt rfl rfl rfl c22 <| .mv rfl <| .gYt rfl rfl rfl c22 <| .cm rfl rfl rfl <| .pkTb rfl c22 rfl <| .mv rfl <| .gYt rfl rfl rfl c23 <| .mv rfl <| .gYt rfl rfl rfl c23 <| .cm rfl rfl rfl <| .pkTb rfl c23 rfl <| .mv rfl <| .gNt rfl rfl rfl c24 <| .gNt rfl rfl rfl c24 <| .pkFb rfl c24 rfl <| .mv rfl <| .gNt rfl rfl rfl (by decide) <| .gNt rfl rfl rfl (by decide) <| .pkFb rfl (by decide) rfl <| .mv rfl <| .gNt rfl rfl rfl (by decide) <| .gNt rfl rfl rfl (by decide) <| .pkFb rfl (by decide) rfl <| .mv rfl <| .gNt rfl rfl rfl (by decide) <| .gNt rfl rfl rfl (by decide) <| .pkFb rfl (by decide) rfl <| .mv rfl <| .gNt rfl rfl rfl (by decide) <| .gNt rfl rfl rfl (by decide) <| .pkFb rfl (by decide) rfl <| .mv rfl <| .gNt rfl rfl rfl (by decide) <| .gNt rfl rfl rfl (by decide) <| .gNt rfl rfl rfl (by decide) <| .pkFb rfl (by decide) rfl <| .mv rfl <| .gNt rfl rfl rfl (by decide) <| .gNt rfl rfl rfl (by decide) <| .gNt rfl rfl rfl (by decide) <| .pkFb rfl (by decide) rfl <| .mv rfl <| .gNt rfl rfl rfl (by decide) <| .gNt rfl rfl rfl (by decide) <| .gNt rfl rfl rfl (by decide) <| .gNt rfl rfl rfl (by decide) <| .pkFb rfl (by decide) rfl <| .mv rfl <| .gNt rfl rfl rfl (by decide) <| .gNt rfl rfl rfl (by decide) <| .gNt rfl rfl rfl (by decide) <| .gNt rfl rfl rfl (by decide) <| .pkFb rfl (by decide) rfl <| .asg rfl <| .nil) rfl ?_
        cases h
        refine .retG (fun _ _ hb => hb) rfl (.cons (.tmp rfl) .nil) (.refl _) trivial trivial
    · replace h := ite_neg_some c23 h
      refine .reg (.mv rfl <| .cm rfl rfl rfl <| .mv rfl <| .gYt rfl rfl rfl c22 <| .mv rfl <| .gYt rfl rfl rfl c22 <| .cm rfl rfl rfl <| .pkTb rfl c22 rfl <| .mv rfl <| .gNt rfl rfl rfl c23 <| .gNt rfl rfl rfl c23 <| .pkFb rfl c23 rfl <| .mv rfl <| .gNt rfl rfl rfl (by decide) <| .gNt rfl rfl rfl (by decide) <| .pkFb rfl (by decide) rfl <| .mv rfl <| .gNt rfl rfl rfl (by decide) <| .gNt rfl rfl rfl (by decide) <| .pkFb rfl (by decide) rfl <| .mv rfl <| .gNt rfl rfl rfl (by decide) <| .gNt rfl rfl rfl (by decide) <| .pkFb rfl (by decide) rfl <| .mv rfl <| .gNt rfl rfl rfl (by decide) <| .gNt rfl rfl rfl (by decide) <| .pkFb rfl (by decide) rfl <| .mv rfl <| .gNt rfl rfl rfl (by decide) <| .gNt rfl rfl rfl (by decide) <| .pkFb rfl (by decide) rfl <| .mv rfl <| .gNt rfl rfl rfl (by decide) <| .gNt rfl rfl rfl (by decide) <| .gNt rfl rfl rfl (by decide) <| .pkFb rfl (by decide) rfl <| .mv rfl <| .gNt rfl rfl rfl (by decide) <| .gNt rfl rfl rfl (by decide) <| .gNt rfl rfl rfl (by decide) <| .pkFb rfl (by decide) rfl <| .mv rfl <| .gNt rfl rfl rfl (by decide) <| .gNt rfl rfl rfl (by decide) <| .gNt rfl rfl rfl (by decide) <| .gNt rfl rfl rfl (by decide) <| .pkFb rfl (by decide) rfl <| .mv rfl <| .gNt rfl rfl rfl (by decide) <| .gNt rfl rfl rfl (by decide) <| .gNt rfl rfl rfl (by decide) <| .gNt rfl rfl rfl (by decide) <| .pkFb rfl (by decide) rfl <| .asg rfl <| .nil) rfl ?_
      cases h
      refine .retG (fun _ _ hb => hb) rfl (.cons (.tmp rfl) .nil) (.refl _) trivial trivial
  · replace h := ite_neg_some c22 h
    refine .reg (.mv rfl <| .cm rfl rfl rfl <| .mv rfl <| .gNt rfl rfl rfl c22 <| .gNt rfl rfl rfl c22 <| .pkFb rfl c22 rfl <| .mv rfl <| .gNt rfl rfl rfl (by decide) <| .gNt rfl rfl rfl (by decide) <| .pkFb rfl (by decide) rfl <| .mv rfl <| .gNt rfl rfl rfl (by decide) <| .gNt rfl rfl rfl (by decide) <| .pkFb rfl (by decide) rfl <| .mv rfl <| .gNt rfl rfl rfl (by decide) <| .gNt rfl rfl rfl (by decide) <| .pkFb rfl (by decide) rfl <| .mv rfl <| .gNt rfl rfl rfl (by decide) <| .gNt rfl rfl rfl (by decide) <| .pkFb rfl (by decide) rfl <| .mv rfl <| .gNt rfl rfl rfl (by decide) <| .gNt rfl rfl rfl (by decide) <| .pkFb rfl (by decide) rfl <| .mv rfl <| .gNt rfl rfl rfl (by decide) <| .gNt rfl rfl rfl (by decide) <| .pkFb rfl (by decide) rfl <| .mv rfl <| .gNt rfl rfl rfl (by decide) <| .gNt rfl rfl rfl (by decide) <| .gNt rfl rfl rfl (by decide) <| .pkFb rfl (by decide) rfl <| .mv rfl <| .gNt rfl rfl rfl (by decide) <| .gNt rfl rfl rfl (by decide) <| .gNt rfl rfl rfl (by decide) <| .pkFb rfl (by decide) rfl <| .mv rfl <| .gNt rfl rfl rfl (by decide) <| .gNt rfl rfl rfl (by decide) <| .gNt rfl rfl rfl (by decide) <| .gNt rfl rfl rfl (by decide) <| .pkFb rfl (by decide) rfl <| .mv rfl <| .gNt rfl rfl rfl (by decide) <| .gNt rfl rfl rfl (by decide) <| .gNt rfl rfl rfl (by decide) <| .gNt rfl rfl rfl (by decide) <| .pkFb rfl (by decide) rfl <| .asg rfl <| .nil) rfl ?_
    cases h
    refine .retG (fun _ _ hb => hb) rfl (.cons (.tmp rfl) .nil) (.refl _) trivial trivial
def m_l_same (a1 : Rat) (a2 : Rat) : Option Bool := (q_cmp a1 a2).bind fun v3 => (if (v3 == 0) = true then (q_text a1).bind fun v6 => (q_text a2).bind fun v8 => some (v6 == v8) else some false)
theorem C_l_same {a1 : Rat} {a2 : Rat} {r10 : Bool} (h : m_l_same a1 a2 = some r10) : CtrG PP 34 [] [qD a1, qD a2] [] (D.bool r10) := by
  unfold m_l_same at h
  refine .of Go.Proofs.Tryz.func34 rfl (by kernel_rfl) rfl rfl rfl rfl rfl rfl (fun A w0 L b => ?_)
  show Ok PP _ [(0, qD a1), (1, qD a2)] [] _ _
  refine .reg (.bxA rfl rfl <| .bxA rfl rfl <| .asg rfl <| .nil) rfl ?_
  obtain ⟨v3, e4, h⟩ := bind_some h
  by_cases c5 : (v3 == 0) = true
  · replace h := ite_pos_some c5 h
    obtain ⟨v6, e7, h⟩ := bind_some h
    obtain ⟨v8, e9, h⟩ := bind_some h
    refine .regD hmix (.ldE (qC (a1)) rfl rfl ly_exact_Q rfl rfl <| .ldE (qC (a2)) rfl rfl ly_exact_Q rfl rfl <| .callG (Q_cmp e4) ⟨rfl, rfl, trivial⟩ trivial trivial <| .cm rfl rfl rfl <| .mv rfl <| .gYt rfl rfl rfl c5 <| .ldE (qC (a1)) rfl rfl ly_exact_Q rfl rfl <| .gYt rfl rfl rfl c5 <| .callG (Q_text e7) ⟨rfl, trivial⟩ trivial trivial <| .gYt rfl rfl rfl c5 <| .ldE (qC (a2)) rfl rfl ly_exact_Q rfl rfl <| .gYt rfl rfl rfl c5 <| .callG (Q_text e9) ⟨rfl, trivial⟩ trivial trivial <| .gYt rfl rfl rfl c5 <| .teq rfl rfl <| .pkTb rfl c5 rfl <| .asg rfl <| .nil) rfl (by kernel_rfl) ?_
    cases h
    refine .retG (fun _ _ hb => hb) rfl (.cons (.tmp rfl) .nil) (.refl _) trivial trivial
  · replace h := ite_neg_some c5 h
    refine .regD hmix (.ldE (qC (a1)) rfl rfl ly_exact_Q rfl rfl <| .ldE (qC (a2)) rfl rfl ly_exact_Q rfl rfl <| .callG (Q_cmp e4) ⟨rfl, rfl, trivial⟩ trivial trivial <| .cm rfl rfl rfl <| .mv rfl <| .gNt rfl rfl rfl c5 <| .gNt rfl rfl rfl c5 <| .gNt rfl rfl rfl c5 <| .gNt rfl rfl rfl c5 <| .gNt rfl rfl rfl c5 <| .pkFb rfl c5 rfl <| .asg rfl <| .nil) rfl (by kernel_rfl) ?_
    cases h
    refine .retG (fun _ _ hb => hb) rfl (.cons (.tmp rfl) .nil) (.refl _) trivial trivial
def m_l_both (a1 : Int) (a2 : Int) (a3 : Int) (a4 : Int) (a5 : Int) (a6 : Int) (a7 : Int) (a8 : Int) (a9 : Int) : Option ((Rat × Rat × Rat) × (Rat × Rat × Rat) × Bool) := (m_l_Both a1 a2 a3).bind fun (v10, v11) => (m_l_Both a4 a5 a6).bind fun (v13, v14) => (m_l_Both a7 a8 a9).bind fun (v16, v17) => (q_sign v17).bind fun v19 => some ((v10, v13, v16), (v11, v14, v17), (decide (v19 ≥ 0)))
theorem C_l_both {a1 : Int} {a2 : Int} {a3 : Int} {a4 : Int} {a5 : Int} {a6 : Int} {a7 : Int} {a8 : Int} {a9 : Int} {r21 : Rat} {r22 : Rat} {r23 : Rat} {r24 : Rat} {r25 : Rat} {r26 : Rat} {r27 : Bool} (h : m_l_both a1 a2 a3 a4 a5 a6 a7 a8 a9 = some ((r21, r22, r23), (r24, r25, r26), r27)) : CtrG PP 115 [] [D.agg ([D.int .i64 a1, D.int .i64 a2, D.int .u8 a3, D.int .i64 a4, D.int .i64 a5, D.int .u8 a6, D.int .i64 a7, D.int .i64 a8, D.int .u8 a9])] [] (D.tup [D.agg (qC (r21) ++ qC (r22) ++ qC (r23)), D.agg (rqC (r24) ++ rqC (r25) ++ rqC (r26)), D.bool r27]) := by
  unfold m_l_both at h
  refine .of Go.Proofs.Tryz.func115 rfl (by kernel_rfl) rfl rfl rfl rfl rfl rfl (fun A w0 L b => ?_)
  show Ok PP _ [(0, D.agg ([D.int .i64 a1, D.int .i64 a2, D.int .u8 a3, D.int .i64 a4, D.int .i64 a5, D.int .u8 a6, D.int .i64 a7, D.int .i64 a8, D.int .u8 a9]))] [] _ _
  refine .reg (.bxA rfl rfl <| .alL (qC (0) ++ qC (0) ++ qC (0)) z_exact_Surd ⟨zq1, zq2, zq3, zq1, zq2, zq3, zq1, zq2, zq3, trivial⟩ rfl <| .alL (rqC (0) ++ rqC (0) ++ rqC (0)) z_ambleref01_Surd ⟨zr1, zr2, .refl _, zr4, zr1, zr2, .refl _, zr4, zr1, zr2, .refl _, zr4, trivial⟩ rfl <| .asg rfl <| .nil) rfl ?_
  obtain ⟨⟨v10, v11⟩, e12, h⟩ := bind_some h
  refine .reg (.fa rfl f_amblelaw01_Root_0 <| .ldE ([D.int .i64 a1, D.int .i64 a2, D.int .u8 a3]) rfl rfl ly_amblelaw01_Num rfl rfl <| .callG (C_l_Both e12) ⟨rfl, trivial⟩ trivial trivial <| .mv rfl <| .ext rfl rfl <| .ext rfl rfl <| .alL (qC (0)) z_exact_Q ⟨zq1, zq2, zq3, trivial⟩ rfl <| .alL (rqC (0)) z_ambleref01_Q ⟨zr1, zr2, .refl _, zr4, trivial⟩ rfl <| .stE (qC (v10)) rfl rfl rfl ly_exact_Q rfl rfl rfl <| .stE (rqC (v11)) rfl rfl rfl ly_ambleref01_Q rfl rfl rfl <| .nil) rfl ?_
  obtain ⟨⟨v13, v14⟩, e15, h⟩ := bind_some h
  refine .reg (.fa rfl f_amblelaw01_Root_1 <| .ldE ([D.int .i64 a4, D.int .i64 a5, D.int .u8 a6]) rfl rfl ly_amblelaw01_Num rfl rfl <| .callG (C_l_Both e15) ⟨rfl, trivial⟩ trivial trivial <| .mv rfl <| .ext rfl rfl <| .ext rfl rfl <| .alL (qC (0)) z_exact_Q ⟨zq1, zq2, zq3, trivial⟩ rfl <| .alL (rqC (0)) z_ambleref01_Q ⟨zr1, zr2, .refl _, zr4, trivial⟩ rfl <| .stE (qC (v13)) rfl rfl rfl ly_exact_Q rfl rfl rfl <| .stE (rqC (v14)) rfl rfl rfl ly_ambleref01_Q rfl rfl rfl <| .nil) rfl ?_
  obtain ⟨⟨v16, v17⟩, e18, h⟩ := bind_some h
  refine .reg (.fa rfl f_amblelaw01_Root_2 <| .ldE ([D.int .i64 a7, D.int .i64 a8, D.int .u8 a9]) rfl rfl ly_amblelaw01_Num rfl rfl <| .callG (C_l_Both e18) ⟨rfl, trivial⟩ trivial trivial <| .mv rfl <| .ext rfl rfl <| .ext rfl rfl <| .alL (qC (0)) z_exact_Q ⟨zq1, zq2, zq3, trivial⟩ rfl <| .alL (rqC (0)) z_ambleref01_Q ⟨zr1, zr2, .refl _, zr4, trivial⟩ rfl <| .stE (qC (v16)) rfl rfl rfl ly_exact_Q rfl rfl rfl <| .stE (rqC (v17)) rfl rfl rfl ly_ambleref01_Q rfl rfl rfl <| .nil) rfl ?_
  obtain ⟨v19, e20, h⟩ := bind_some h
  refine .regD hmix (.ldE (qC (v10)) rfl rfl ly_exact_Q rfl rfl <| .ldE (qC (v13)) rfl rfl ly_exact_Q rfl rfl <| .ldE (qC (v16)) rfl rfl ly_exact_Q rfl rfl <| .bdQ (qC (v10) ++ qC (v13) ++ qC (v16)) [(0, _, qD v10, qC (v10)), (3, _, qD v13, qC (v13)), (6, _, qD v16, qC (v16))] z_exact_Surd pl_exact_Surd ⟨rfl, rfl, .agg _, rfl, rfl, rfl, .agg _, rfl, rfl, rfl, .agg _, rfl, trivial⟩ ⟨rfl, rfl, rfl, trivial⟩ ⟨.refl _, .refl _, .refl _, .refl _, .refl _, .refl _, .refl _, .refl _, .refl _, trivial⟩ <| .ldE (rqC (v11)) rfl rfl ly_ambleref01_Q rfl rfl <| .ldE (rqC (v14)) rfl rfl ly_ambleref01_Q rfl rfl <| .ldE (rqC (v17)) rfl rfl ly_ambleref01_Q rfl rfl <| .bdQ (rqC (v11) ++ rqC (v14) ++ rqC (v17)) [(0, _, rqD v11, rqC (v11)), (4, _, rqD v14, rqC (v14)), (8, _, rqD v17, rqC (v17))] z_ambleref01_Surd pl_ambleref01_Surd ⟨rfl, rfl, .agg _, rfl, rfl, rfl, .agg _, rfl, rfl, rfl, .agg _, rfl, trivial⟩ ⟨rfl, rfl, rfl, trivial⟩ ⟨.refl _, .refl _, .refl _, .refl _, .refl _, .refl _, .refl _, .refl _, .refl _, .refl _, .refl _, .refl _, trivial⟩ <| .ldE (rqC (v17)) rfl rfl ly_ambleref01_Q rfl rfl <| .callG (R_sign e20) ⟨rfl, trivial⟩ trivial trivial <| .cm rfl rfl rfl <| .stE (qC (v10) ++ qC (v13) ++ qC (v16)) rfl rfl rfl ly_exact_Surd rfl rfl rfl <| .stE (rqC (v11) ++ rqC (v14) ++ rqC (v17)) rfl rfl rfl ly_ambleref01_Surd rfl rfl rfl <| .asg rfl <| .nil) rfl (by kernel_rfl) ?_
  cases h
  refine .retG (fun _ _ hb => hb) rfl (.cons (.agg rfl rfl ly_exact_Surd rfl) (.cons (.agg rfl rfl ly_ambleref01_Surd rfl) (.cons (.tmp rfl) .nil))) (.refl _) trivial trivial
def m_l_SameSurd (a1 : Rat) (a2 : Rat) (a3 : Rat) (a4 : Rat) (a5 : Rat) (a6 : Rat) : Option Bool := (m_l_Same a1 a4).bind fun v7 => (if v7 = true then (m_l_Same a2 a5).bind fun v10 => (if v10 = true then (m_l_Same a3 a6).bind fun v13 => some v13 else some false) else some false)
theorem C_l_SameSurd {a1 : Rat} {a2 : Rat} {a3 : Rat} {a4 : Rat} {a5 : Rat} {a6 : Rat} {r15 : Bool} (h : m_l_SameSurd a1 a2 a3 a4 a5 a6 = some r15) : CtrG PP 103 [] [D.agg (qC (a1) ++ qC (a2) ++ qC (a3)), D.agg (rqC (a4) ++ rqC (a5) ++ rqC (a6))] [] (D.bool r15) := by
  unfold m_l_SameSurd at h
  refine .of Go.Proofs.Tryz.func103 rfl (by kernel_rfl) rfl rfl rfl rfl rfl rfl (fun A w0 L b => ?_)
  show Ok PP _ [(0, D.agg (qC (a1) ++ qC (a2) ++ qC (a3))), (1, D.agg (rqC (a4) ++ rqC (a5) ++ rqC (a6)))] [] _ _
  refine .reg (.bxA rfl rfl <| .bxA rfl rfl <| .asg rfl <| .nil) rfl ?_
  obtain ⟨v7, e8, h⟩ := bind_some h
  by_cases c9 : v7 = true
  · replace h := ite_pos_some c9 h
    obtain ⟨v10, e11, h⟩ := bind_some h
    by_cases c12 : v10 = true
    · replace h := ite_pos_some c12 h
      obtain ⟨v13, e14, h⟩ := bind_some h
      refine .reg (.fa rfl f_exact_Surd_0 <| .ldE (qC (a1)) rfl rfl ly_exact_Q rfl rfl <| .fa rfl f_ambleref01_Surd_0 <| .ldE (rqC (a4)) rfl rfl ly_ambleref01_Q rfl rfl <| .callG (C_l_Same e8) ⟨rfl, rfl, trivial⟩ trivial trivial <| .mv rfl <| .gYt rfl rfl rfl c9 <| .fa rfl f_exact_Surd_1 <| .gYt rfl rfl rfl c9 <| .ldE (qC (a2)) rfl rfl ly_exact_Q rfl rfl <| .gYt rfl rfl rfl c9 <| .fa rfl f_ambleref01_Surd_1 <| .gYt rfl rfl rfl c9 <| .ldE (rqC (a5)) rfl rfl ly_ambleref01_Q rfl rfl <| .gYt rfl rfl rfl c9 <| .callG (C_l_Same e11) ⟨rfl, rfl, trivial⟩ trivial trivial <| .pkTb rfl c9 rfl <| .mv rfl <| .gYt rfl rfl rfl c12 <| .fa rfl f_exact_Surd_2 <| .gYt rfl rfl rfl c12 <| .ldE (qC (a3)) rfl rfl ly_exact_Q rfl rfl <| .gYt rfl rfl rfl c12 <| .fa rfl f_ambleref01_Surd_2 <| .gYt rfl rfl rfl c12 <| .ldE (rqC (a6)) rfl rfl ly_ambleref01_Q rfl rfl <| .gYt rfl rfl rfl c12 <| .callG (C_l_Same e14) ⟨rfl, rfl, trivial⟩ trivial trivial <| .pkTb rfl c12 rfl <| .asg rfl <| .nil) rfl ?_
      cases h
      refine .retG (fun _ _ hb => hb) rfl (.cons (.tmp rfl) .nil) (.refl _) trivial trivial
    · replace h := ite_neg_some c12 h
      refine .reg (.fa rfl f_exact_Surd_0 <| .ldE (qC (a1)) rfl rfl ly_exact_Q rfl rfl <| .fa rfl f_ambleref01_Surd_0 <| .ldE (rqC (a4)) rfl rfl ly_ambleref01_Q rfl rfl <| .callG (C_l_Same e8) ⟨rfl, rfl, trivial⟩ trivial trivial <| .mv rfl <| .gYt rfl rfl rfl c9 <| .fa rfl f_exact_Surd_1 <| .gYt rfl rfl rfl c9 <| .ldE (qC (a2)) rfl rfl ly_exact_Q rfl rfl <| .gYt rfl rfl rfl c9 <| .fa rfl f_ambleref01_Surd_1 <| .gYt rfl rfl rfl c9 <| .ldE (rqC (a5)) rfl rfl ly_ambleref01_Q rfl rfl <| .gYt rfl rfl rfl c9 <| .callG (C_l_Same e11) ⟨rfl, rfl, trivial⟩ trivial trivial <| .pkTb rfl c9 rfl <| .mv rfl <| .gNt rfl rfl rfl c12 <| .gNt rfl rfl rfl c12 <| .gNt rfl rfl rfl c12 <| .gNt rfl rfl rfl c12 <| .gNt rfl rfl rfl c12 <| .pkFb rfl c12 rfl <| .asg rfl <| .nil) rfl ?_
      cases h
      refine .retG (fun _ _ hb => hb) rfl (.cons (.tmp rfl) .nil) (.refl _) trivial trivial
  · replace h := ite_neg_some c9 h
    refine .reg (.fa rfl f_exact_Surd_0 <| .ldE (qC (a1)) rfl rfl ly_exact_Q rfl rfl <| .fa rfl f_ambleref01_Surd_0 <| .ldE (rqC (a4)) rfl rfl ly_ambleref01_Q rfl rfl <| .callG (C_l_Same e8) ⟨rfl, rfl, trivial⟩ trivial trivial <| .mv rfl <| .gNt rfl rfl rfl c9 <| .gNt rfl rfl rfl c9 <| .gNt rfl rfl rfl c9 <| .gNt rfl rfl rfl c9 <| .gNt rfl rfl rfl c9 <| .pkFb rfl c9 rfl <| .mv rfl <| .gNt rfl rfl rfl (by decide) <| .gNt rfl rfl rfl (by decide) <| .gNt rfl rfl rfl (by decide) <| .gNt rfl rfl rfl (by decide) <| .gNt rfl rfl rfl (by decide) <| .pkFb rfl (by decide) rfl <| .asg rfl <| .nil) rfl ?_
    cases h
    refine .retG (fun _ _ hb => hb) rfl (.cons (.tmp rfl) .nil) (.refl _) trivial trivial
def m_l_value (a1 : Rat) (a2 : Rat) (a3 : Rat) (a4 : Rat) (a5 : Rat) (a6 : Rat) : Option (Rat × Rat × Rat) := (q_mul a4 a4).bind fun v7 => (q_mul a5 a5).bind fun v9 => (q_mul v9 a6).bind fun v11 => (q_add v7 v11).bind fun v13 => (q_int 2).bind fun v15 => (q_mul v15 a4).bind fun v17 => (q_mul v17 a5).bind fun v19 => (q_mul a1 v13).bind fun v21 => (q_mul a2 a4).bind fun v23 => (q_add v21 v23).bind fun v25 => (q_add v25 a3).bind fun v27 => (q_mul a1 v19).bind fun v29 => (q_mul a2 a5).bind fun v31 => (q_add v29 v31).bind fun v33 => some (v27, v33, a6)
theorem C_l_value {a1 : Rat} {a2 : Rat} {a3 : Rat} {a4 : Rat} {a5 : Rat} {a6 : Rat} {r35 : Rat} {r36 : Rat} {r37 : Rat} (h : m_l_value a1 a2 a3 a4 a5 a6 = some (r35, r36, r37)) : CtrG PP 116 [] [qD a1, qD a2, qD a3, D.agg (qC (a4) ++ qC (a5) ++ qC (a6))] [] (D.agg (qC (r35) ++ qC (r36) ++ qC (r37))) := by
  unfold m_l_value at h
  refine .of Go.Proofs.Tryz.func116 rfl (by kernel_rfl) rfl rfl rfl rfl rfl rfl (fun A w0 L b => ?_)
  show Ok PP _ [(0, qD a1), (1, qD a2), (2, qD a3), (3, D.agg (qC (a4) ++ qC (a5) ++ qC (a6)))] [] _ _
  refine .reg (.bxA rfl rfl <| .bxA rfl rfl <| .bxA rfl rfl <| .bxA rfl rfl <| .alL (qC (0) ++ qC (0) ++ qC (0)) z_exact_Surd ⟨zq1, zq2, zq3, zq1, zq2, zq3, zq1, zq2, zq3, trivial⟩ rfl <| .nil) rfl ?_
  obtain ⟨v7, e8, h⟩ := bind_some h
  obtain ⟨v9, e10, h⟩ := bind_some h
  obtain ⟨v11, e12, h⟩ := bind_some h
  obtain ⟨v13, e14, h⟩ := bind_some h
  obtain ⟨v15, e16, h⟩ := bind_some h
  obtain ⟨v17, e18, h⟩ := bind_some h
  obtain ⟨v19, e20, h⟩ := bind_some h
  refine .regD hmix (.fa rfl f_exact_Surd_0 <| .ldE (qC (a4)) rfl rfl ly_exact_Q rfl rfl <| .fa rfl f_exact_Surd_0 <| .ldE (qC (a4)) rfl rfl ly_exact_Q rfl rfl <| .callG (Q_mul e8) ⟨rfl, rfl, trivial⟩ trivial trivial <| .fa rfl f_exact_Surd_1 <| .ldE (qC (a5)) rfl rfl ly_exact_Q rfl rfl <| .fa rfl f_exact_Surd_1 <| .ldE (qC (a5)) rfl rfl ly_exact_Q rfl rfl <| .callG (Q_mul e10) ⟨rfl, rfl, trivial⟩ trivial trivial <| .fa rfl f_exact_Surd_2 <| .ldE (qC (a6)) rfl rfl ly_exact_Q rfl rfl <| .callG (Q_mul e12) ⟨rfl, rfl, trivial⟩ trivial trivial <| .callG (Q_add e14) ⟨rfl, rfl, trivial⟩ trivial trivial <| .callG (Q_int e16) ⟨rfl, trivial⟩ trivial trivial <| .fa rfl f_exact_Surd_0 <| .ldE (qC (a4)) rfl rfl ly_exact_Q rfl rfl <| .callG (Q_mul e18) ⟨rfl, rfl, trivial⟩ trivial trivial <| .fa rfl f_exact_Surd_1 <| .ldE (qC (a5)) rfl rfl ly_exact_Q rfl rfl <| .callG (Q_mul e20) ⟨rfl, rfl, trivial⟩ trivial trivial <| .fa rfl f_exact_Surd_2 <| .ldE (qC (a6)) rfl rfl ly_exact_Q rfl rfl <| .bdQ (qC (v13) ++ qC (v19) ++ qC (a6)) [(0, _, qD v13, qC (v13)), (3, _, qD v19, qC (v19)), (6, _, qD a6, qC (a6))] z_exact_Surd pl_exact_Surd ⟨rfl, rfl, .agg _, rfl, rfl, rfl, .agg _, rfl, rfl, rfl, .agg _, rfl, trivial⟩ ⟨rfl, rfl, rfl, trivial⟩ ⟨.refl _, .refl _, .refl _, .refl _, .refl _, .refl _, .refl _, .refl _, .refl _, trivial⟩ <| .alL (qC (0) ++ qC (0) ++ qC (0)) z_exact_Surd ⟨zq1, zq2, zq3, zq1, zq2, zq3, zq1, zq2, zq3, trivial⟩ rfl <| .stE (qC (v13) ++ qC (v19) ++ qC (a6)) rfl rfl rfl ly_exact_Surd rfl rfl rfl <| .nil) rfl (by kernel_rfl) ?_
  obtain ⟨v21, e22, h⟩ := bind_some h
  obtain ⟨v23, e24, h⟩ := bind_some h
  obtain ⟨v25, e26, h⟩ := bind_some h
  obtain ⟨v27, e28, h⟩ := bind_some h
  obtain ⟨v29, e30, h⟩ := bind_some h
  obtain ⟨v31, e32, h⟩ := bind_some h
  obtain ⟨v33, e34, h⟩ := bind_some h
  refine .regD hmix (.ldE (qC (a1)) rfl rfl ly_exact_Q rfl rfl <| .fa rfl f_exact_Surd_0 <| .ldE (qC (v13)) rfl rfl ly_exact_Q rfl rfl <| .callG (Q_mul e22) ⟨rfl, rfl, trivial⟩ trivial trivial <| .ldE (qC (a2)) rfl rfl ly_exact_Q rfl rfl <| .fa rfl f_exact_Surd_0 <| .ldE (qC (a4)) rfl rfl ly_exact_Q rfl rfl <| .callG (Q_mul e24) ⟨rfl, rfl, trivial⟩ trivial trivial <| .callG (Q_add e26) ⟨rfl, rfl, trivial⟩ trivial trivial <| .ldE (qC (a3)) rfl rfl ly_exact_Q rfl rfl <| .callG (Q_add e28) ⟨rfl, rfl, trivial⟩ trivial trivial <| .ldE (qC (a1)) rfl rfl ly_exact_Q rfl rfl <| .fa rfl f_exact_Surd_1 <| .ldE (qC (v19)) rfl rfl ly_exact_Q rfl rfl <| .callG (Q_mul e30) ⟨rfl, rfl, trivial⟩ trivial trivial <| .ldE (qC (a2)) rfl rfl ly_exact_Q rfl rfl <| .fa rfl f_exact_Surd_1 <| .ldE (qC (a5)) rfl rfl ly_exact_Q rfl rfl <| .callG (Q_mul e32) ⟨rfl, rfl, trivial⟩ trivial trivial <| .callG (Q_add e34) ⟨rfl, rfl, trivial⟩ trivial trivial <| .fa rfl f_exact_Surd_2 <| .ldE (qC (a6)) rfl rfl ly_exact_Q rfl rfl <| .bdQ (qC (v27) ++ qC (v33) ++ qC (a6)) [(0, _, qD v27, qC (v27)), (3, _, qD v33, qC (v33)), (6, _, qD a6, qC (a6))] z_exact_Surd pl_exact_Surd ⟨rfl, rfl, .agg _, rfl, rfl, rfl, .agg _, rfl, rfl, rfl, .agg _, rfl, trivial⟩ ⟨rfl, rfl, rfl, trivial⟩ ⟨.refl _, .refl _, .refl _, .refl _, .refl _, .refl _, .refl _, .refl _, .refl _, trivial⟩ <| .stE (qC (v27) ++ qC (v33) ++ qC (a6)) rfl rfl rfl ly_exact_Surd rfl rfl rfl <| .nil) rfl (by kernel_rfl) ?_
  cases h
  refine .retG (fun _ _ hb => hb) rfl (.cons (.agg rfl rfl ly_exact_Surd rfl) .nil) (.refl _) trivial trivial
end
end Go.Am
namespace Go.Am
class Bd (x : Rat) (n : outParam Nat) : Prop where
  le : sz x ≤ n
instance Bd.add {a b : Rat} {i j : Nat} [h : Bd a i] [k : Bd b j] : Bd (a + b) (i + j + 1) := ⟨by have := sz_add a b; have := h.le; have := k.le; omega⟩
instance Bd.sub {a b : Rat} {i j : Nat} [h : Bd a i] [k : Bd b j] : Bd (a - b) (i + j + 1) := ⟨by have := sz_sub a b; have := h.le; have := k.le; omega⟩
instance Bd.mul {a b : Rat} {i j : Nat} [h : Bd a i] [k : Bd b j] : Bd (a * b) (i + j) := ⟨by have := sz_mul a b; have := h.le; have := k.le; omega⟩
instance Bd.div {a b : Rat} {i j : Nat} [h : Bd a i] [k : Bd b j] : Bd (a / b) (i + j) := ⟨by have := sz_div' a b; have := h.le; have := k.le; omega⟩
instance Bd.neg {a : Rat} {i : Nat} [h : Bd a i] : Bd (-a) i := ⟨by rw [sz_neg']; exact h.le⟩
instance Bd.abs {a : Rat} {i : Nat} [h : Bd a i] : Bd (if a < 0 then -a else a) i := ⟨by rw [sz_abs]; exact h.le⟩
instance Bd.den {a : Rat} {i : Nat} [h : Bd a i] : Bd ((a.den : Nat) : Rat) (i + 1) := ⟨by have := sz_den a; have := h.le; omega⟩
instance Bd.zero : Bd 0 1 := ⟨Nat.le_refl _⟩
instance Bd.one : Bd 1 1 := ⟨Nat.le_refl _⟩
theorem Bd.qs {x : Rat} {n : Nat} [h : Bd x n] (k : n ≤ 400000000000) : qs' x := Nat.le_trans h.le k
theorem q_add_eq {a b : Rat} (h : qs' a) (k : qs' b) : q_add a b = some (a + b) := must_eq ⟨h, k⟩
theorem q_sub_eq {a b : Rat} (h : qs' a) (k : qs' b) : q_sub a b = some (a - b) := must_eq ⟨h, k⟩
theorem q_mul_eq {a b : Rat} (h : qs' a) (k : qs' b) : q_mul a b = some (a * b) := must_eq ⟨h, k⟩
theorem q_over_eq {a b : Rat} (h0 : b ≠ 0) (h : qs' a) (k : qs' b) : q_over a b = some (a / b) := must_eq ⟨h0, h, k⟩
theorem q_cmp_eq {a b : Rat} (h : qs' a) (k : qs' b) : q_cmp a b = some (cmpq a b) := must_eq ⟨h, k⟩
theorem q_text_eq {a : Rat} (h : qs' a) : q_text a = some (txt a) := must_eq h
theorem q_den_eq {a : Rat} (h : qs' a) : q_den a = some (a.den : Rat) := must_eq h
theorem Same_self {a : Rat} (h : qs' a) : m_l_Same a a = some true := by
  unfold m_l_Same
  rw [q_text_eq h]
  simp
theorem same_self {a : Rat} (h : qs' a) : m_l_same a a = some true := by
  unfold m_l_same
  rw [q_cmp_eq h h, q_text_eq h]
  have : cmpq a a = 0 := cmpq_zero.2 rfl
  simp [this]
def bothX (n d p : Int) : Rat := ((n : Rat) / (((if d = 0 then 1 else d) : Int) : Rat)) ^ (1 + (p % 4).toNat)
theorem div_mk (n d : Int) (hd : d ≠ 0) : (n : Rat) / (d : Rat) = mkRat (if d < 0 then -n else n) d.natAbs := by
  rw [Rat.mkRat_eq_div]
  by_cases h : d < 0
  · rw [if_pos h]
    have e : ((d.natAbs : Nat) : Rat) = -(d : Rat) := by
      have : ((d.natAbs : Nat) : Int) = -d := by omega
      have h2 : ((d.natAbs : Nat) : Rat) = (((d.natAbs : Nat) : Int) : Rat) := rfl
      rw [h2, this, Rat.intCast_neg]
    rw [e, Rat.intCast_neg]; grind
  · rw [if_neg h]
    have e : ((d.natAbs : Nat) : Rat) = (d : Rat) := by
      have : ((d.natAbs : Nat) : Int) = d := by omega
      have h2 : ((d.natAbs : Nat) : Rat) = (((d.natAbs : Nat) : Int) : Rat) := rfl
      rw [h2, this]
    rw [e]
theorem sz_frac {n d : Int} (hn : i64r n) (hd : i64r d) (h0 : d ≠ 0) : sz ((n : Rat) / (d : Rat)) ≤ 64 := by
  rw [div_mk n d h0]
  unfold i64r at hn hd
  refine sz_mk _ _ _ (by omega) (blen_small ?_) (blen_small ?_)
  · split <;> omega
  · omega
theorem Both_is (n d p : Int) (hn : i64r n) (hd : i64r d) (hp : 0 ≤ p ∧ p ≤ 255) : m_l_Both n d p = some (bothX n d p, bothX n d p) ∧ sz (bothX n d p) ≤ 256 := by
  obtain ⟨D, hD⟩ : ∃ D, D = if d = 0 then 1 else d := ⟨_, rfl⟩
  have hD0 : D ≠ 0 := by rw [hD]; split <;> omega
  have hDr : i64r D := by
    rw [hD]; unfold i64r at hd ⊢
    split <;> omega
  have hx : sz ((n : Rat) / (D : Rat)) ≤ 64 := sz_frac hn hDr hD0
  generalize hX : (n : Rat) / (D : Rat) = X at hx
  have hpow : ∀ i : Nat, sz (X ^ (1 + i)) ≤ 64 * (1 + i) := by
    intro i
    induction i with
    | zero => simpa using hx
    | succ i ih =>
      rw [show 1 + (i + 1) = (1 + i) + 1 by omega, Rat.pow_succ]
      have := sz_mul (X ^ (1 + i)) X
      omega
  have hm : Int.tmod p 4 = p % 4 := Int.tmod_eq_emod_of_nonneg hp.1
  have hb : bothX n d p = X ^ (1 + (p % 4).toNat) := by unfold bothX; rw [← hD, hX]
  refine ⟨?_, by rw [hb]; have := hpow (p % 4).toNat; omega⟩
  unfold m_l_Both
  have e1 : (if (d == 0) = true then some 1 else some d) = some D := by rw [hD]; by_cases h : d = 0 <;> simp [h]
  have e2 : q_of n D = some (X, 0) := by
    unfold q_of
    rw [must_eq ⟨hn, hDr⟩, if_neg hD0, hX]
  have e3 : r_of n D = some X := by
    unfold r_of
    rw [must_eq ⟨hn, hDr, hD0⟩, hX]
  rw [e1]
  simp only [Option.bind_some]
  rw [e2]
  simp only [Option.bind_some]
  rw [e3]
  simp only [Option.bind_some]
  obtain ⟨r, hr, rfl⟩ := Loop_run (body := fun (s : Int × Rat × Rat) => m_l_Both_l1 p X X s.1 s.2.1 s.2.2) (0, X, X) (fun s => ∃ i : Nat, i ≤ (p % 4).toNat ∧ s = ((i : Int), X ^ (1 + i), X ^ (1 + i))) (fun s => (4 - s.1).toNat) (fun r => r = (X ^ (1 + (p % 4).toNat), X ^ (1 + (p % 4).toNat))) ⟨0, Nat.zero_le _, by simp⟩ (by
    rintro s ⟨i, hi, rfl⟩
    simp only
    unfold m_l_Both_l1
    rw [hm]
    by_cases h : (i : Int) < p % 4
    · left
      have h1 : qs' (X ^ (1 + i)) := Nat.le_trans (hpow i) (by omega)
      have h2 : qs' X := Nat.le_trans hx (by omega)
      rw [if_pos (decide_eq_true h), q_mul_eq h1 h2]
      simp only [Option.bind_some]
      have h3 : IntKind.u8.wrap ((i : Int) + 1) = (i : Int) + 1 := u8_in' _ (by omega)
      rw [h3]
      refine ⟨_, rfl, ⟨i + 1, by omega, ?_⟩, by omega⟩
      rw [show 1 + (i + 1) = (1 + i) + 1 by omega, Rat.pow_succ]; rfl
    · right
      rw [if_neg (by simpa using h)]
      refine ⟨_, rfl, ?_⟩
      have : i = (p % 4).toNat := by omega
      rw [this])
  rw [hr, hb]
  rfl
end Go.Am
namespace Go.Am
theorem awake_true : m_l_awake = some true := by decide +kernel
end Go.Am
namespace Go.Am
theorem q_addB {a b : Rat} {i j : Nat} [Bd a i] [Bd b j] (h : i ≤ 400000000000) (k : j ≤ 400000000000) : q_add a b = some (a + b) := q_add_eq (Bd.qs h) (Bd.qs k)
theorem q_subB {a b : Rat} {i j : Nat} [Bd a i] [Bd b j] (h : i ≤ 400000000000) (k : j ≤ 400000000000) : q_sub a b = some (a - b) := q_sub_eq (Bd.qs h) (Bd.qs k)
theorem q_mulB {a b : Rat} {i j : Nat} [Bd a i] [Bd b j] (h : i ≤ 400000000000) (k : j ≤ 400000000000) : q_mul a b = some (a * b) := q_mul_eq (Bd.qs h) (Bd.qs k)
theorem q_overB {a b : Rat} {i j : Nat} [Bd a i] [Bd b j] (h0 : b ≠ 0) (h : i ≤ 400000000000) (k : j ≤ 400000000000) : q_over a b = some (a / b) := q_over_eq h0 (Bd.qs h) (Bd.qs k)
theorem q_cmpB {a b : Rat} {i j : Nat} [Bd a i] [Bd b j] (h : i ≤ 400000000000) (k : j ≤ 400000000000) : q_cmp a b = some (cmpq a b) := q_cmp_eq (Bd.qs h) (Bd.qs k)
theorem Same_B {a : Rat} {i : Nat} [Bd a i] (h : i ≤ 400000000000) : m_l_Same a a = some true := Same_self (Bd.qs h)
theorem same_B {a : Rat} {i : Nat} [Bd a i] (h : i ≤ 400000000000) : m_l_same a a = some true := same_self (Bd.qs h)
theorem q_one : q_int 1 = some 1 := by decide +kernel
theorem sq_nn (x : Rat) : 0 ≤ x * x := by
  by_cases h : 0 ≤ x
  · exact Rat.mul_nonneg h h
  · have h1 : 0 ≤ -x := by grind
    have h2 := Rat.mul_nonneg h1 h1
    grind
theorem sgn_eq0 {x : Rat} : sgn x = 0 ↔ x = 0 := by unfold sgn; grind
theorem num_sz (a : Rat) : sz ((a.num : Int) : Rat) ≤ sz a + 1 := by
  have ha := sz_le.1 (Nat.le_refl (sz a))
  exact Nat.le_trans (sz_int _) (by omega)
instance Bd.num {a : Rat} {i : Nat} [h : Bd a i] : Bd ((a.num : Int) : Rat) (i + 1) := ⟨by have := num_sz a; have := h.le; omega⟩
theorem q_two : q_int 2 = some 2 := by decide +kernel
instance Bd.two : Bd 2 2 := ⟨by decide +kernel⟩
end Go.Am
namespace Go.Am
open Go.RowKit
set_option maxRecDepth 100000
noncomputable section
def m_l_ExactQuadratics_l1 (v19 : List (Rat × Rat × Rat)) (v37 : List (Rat × Rat × Rat)) (v43 : Int) : Option (St Int (Ex Unit Bool)) := (if (decide (v43 < (v19.length : Int))) = true then (ix v19 v43).bind fun (v49, v50, v51) => (ix v37 v43).bind fun (v53, v54, v55) => (m_l_SameSurd v49 v50 v51 v53 v54 v55).bind fun v57 => (if (!v57) = true then some (St.done (Ex.ret false)) else some (St.next (IntKind.i64.wrap (v43 + 1)))) else some (St.done (Ex.brk ())))
def m_l_ExactQuadratics (a1 : Int) (a2 : Int) (a3 : Int) (a4 : Int) (a5 : Int) (a6 : Int) (a7 : Int) (a8 : Int) (a9 : Int) : Option Bool := (m_l_Both a1 a2 a3).bind fun (v10, v11) => (m_l_Both a4 a5 a6).bind fun (v13, v14) => (m_l_Both a7 a8 a9).bind fun (v16, v17) => (m_Roots v10 v13 v16).bind fun (v19, v20) => ((q_sign v11).bind fun v24 => (if (v24 == 0) = true then (q_sign v14).bind fun v27 => (if (v27 == 0) = true then (q_sign v17).bind fun v30 => (if (v30 == 0) = true then (if (v20 == 10) = true then (if ((v19.length : Int) == 0) = true then (m_l_awake).bind fun v35 => some (Ex.ret v35) else some (Ex.ret false)) else some (Ex.ret false)) else some (Ex.brk ())) else some (Ex.brk ())) else some (Ex.brk ()))).bind fun o22 => (match o22 with | Ex.brk () => (m_r_Roots v11 v14 v17).bind fun v37 => (if (v20 != 0) = true then some false else (if ((v19.length : Int) != (v37.length : Int)) = true then some false else ((Loop (fun (s : Int) => m_l_ExactQuadratics_l1 v19 v37 s) 0).bind fun o44 => (match o44 with | Ex.brk () => some (Ex.brk ()) | Ex.ret r60 => some (Ex.ret r60))).bind fun o41 => (match o41 with | Ex.brk () => (m_l_awake).bind fun v61 => some v61 | Ex.ret r63 => some r63))) | Ex.ret r64 => some r64)
theorem C_l_ExactQuadratics {a1 : Int} {a2 : Int} {a3 : Int} {a4 : Int} {a5 : Int} {a6 : Int} {a7 : Int} {a8 : Int} {a9 : Int} {r65 : Bool} (h : m_l_ExactQuadratics a1 a2 a3 a4 a5 a6 a7 a8 a9 = some r65) : CtrG PP 13 [] [D.agg ([D.int .i64 a1, D.int .i64 a2, D.int .u8 a3]), D.agg ([D.int .i64 a4, D.int .i64 a5, D.int .u8 a6]), D.agg ([D.int .i64 a7, D.int .i64 a8, D.int .u8 a9])] [] (D.bool r65) := by
  unfold m_l_ExactQuadratics at h
  refine .of Go.Proofs.Tryz.func13 rfl (by kernel_rfl) rfl rfl rfl rfl rfl rfl (fun A w0 L b => ?_)
  show Ok PP _ [(0, D.agg ([D.int .i64 a1, D.int .i64 a2, D.int .u8 a3])), (1, D.agg ([D.int .i64 a4, D.int .i64 a5, D.int .u8 a6])), (2, D.agg ([D.int .i64 a7, D.int .i64 a8, D.int .u8 a9]))] [] _ _
  refine .reg (.bxA rfl rfl <| .bxA rfl rfl <| .bxA rfl rfl <| .asg rfl <| .nil) rfl ?_
  obtain ⟨⟨v10, v11⟩, e12, h⟩ := bind_some h
  refine .reg (.ldE ([D.int .i64 a1, D.int .i64 a2, D.int .u8 a3]) rfl rfl ly_amblelaw01_Num rfl rfl <| .callG (C_l_Both e12) ⟨rfl, trivial⟩ trivial trivial <| .mv rfl <| .ext rfl rfl <| .ext rfl rfl <| .alL (qC (0)) z_exact_Q ⟨zq1, zq2, zq3, trivial⟩ rfl <| .alL (rqC (0)) z_ambleref01_Q ⟨zr1, zr2, .refl _, zr4, trivial⟩ rfl <| .stE (qC (v10)) rfl rfl rfl ly_exact_Q rfl rfl rfl <| .stE (rqC (v11)) rfl rfl rfl ly_ambleref01_Q rfl rfl rfl <| .nil) rfl ?_
  obtain ⟨⟨v13, v14⟩, e15, h⟩ := bind_some h
  refine .reg (.ldE ([D.int .i64 a4, D.int .i64 a5, D.int .u8 a6]) rfl rfl ly_amblelaw01_Num rfl rfl <| .callG (C_l_Both e15) ⟨rfl, trivial⟩ trivial trivial <| .mv rfl <| .ext rfl rfl <| .ext rfl rfl <| .alL (qC (0)) z_exact_Q ⟨zq1, zq2, zq3, trivial⟩ rfl <| .alL (rqC (0)) z_ambleref01_Q ⟨zr1, zr2, .refl _, zr4, trivial⟩ rfl <| .stE (qC (v13)) rfl rfl rfl ly_exact_Q rfl rfl rfl <| .stE (rqC (v14)) rfl rfl rfl ly_ambleref01_Q rfl rfl rfl <| .nil) rfl ?_
  obtain ⟨⟨v16, v17⟩, e18, h⟩ := bind_some h
  refine .reg (.ldE ([D.int .i64 a7, D.int .i64 a8, D.int .u8 a9]) rfl rfl ly_amblelaw01_Num rfl rfl <| .callG (C_l_Both e18) ⟨rfl, trivial⟩ trivial trivial <| .mv rfl <| .ext rfl rfl <| .ext rfl rfl <| .alL (qC (0)) z_exact_Q ⟨zq1, zq2, zq3, trivial⟩ rfl <| .alL (rqC (0)) z_ambleref01_Q ⟨zr1, zr2, .refl _, zr4, trivial⟩ rfl <| .stE (qC (v16)) rfl rfl rfl ly_exact_Q rfl rfl rfl <| .stE (rqC (v17)) rfl rfl rfl ly_ambleref01_Q rfl rfl rfl <| .nil) rfl ?_
  obtain ⟨⟨v19, v20⟩, e21, h⟩ := bind_some h
  refine .reg (.ldE (qC (v10)) rfl rfl ly_exact_Q rfl rfl <| .ldE (qC (v13)) rfl rfl ly_exact_Q rfl rfl <| .ldE (qC (v16)) rfl rfl ly_exact_Q rfl rfl <| .callG (C_Roots e21) ⟨rfl, rfl, rfl, trivial⟩ trivial trivial <| .mv rfl <| .ext rfl rfl <| .ext rfl rfl <| .asg rfl <| .asg rfl <| .nil) rfl ?_
  obtain ⟨o22, hp23, h⟩ := bind_some h
  refine .cutX (fun i => o22 = Ex.brk i) (fun (i : Unit) => [(8, D.ref 8 0), (10, D.ref 10 0), (12, D.ref 12 0), (13, slcE (Enc.prod Enc.rat (Enc.prod Enc.rat Enc.rat)) v19), (14, D.int .i64 v20)]) (fun (i : Unit) => [(8, Hp.box 37 (rqC (v11))), (10, Hp.box 37 (rqC (v14))), (12, Hp.box 37 (rqC (v17)))]) ?_ ?_
  · have ho1 := h
    clear h
    have h := hp23
    clear hp23
    obtain ⟨v24, e25, h⟩ := bind_some h
    by_cases c26 : (v24 == 0) = true
    · replace h := ite_pos_some c26 h
      obtain ⟨v27, e28, h⟩ := bind_some h
      by_cases c29 : (v27 == 0) = true
      · replace h := ite_pos_some c29 h
        obtain ⟨v30, e31, h⟩ := bind_some h
        refine .reg (.ldE (rqC (v11)) rfl rfl ly_ambleref01_Q rfl rfl <| .callG (R_sign e25) ⟨rfl, trivial⟩ trivial trivial <| .cm rfl rfl rfl <| .mv rfl <| .gYt rfl rfl rfl c26 <| .ldE (rqC (v14)) rfl rfl ly_ambleref01_Q rfl rfl <| .gYt rfl rfl rfl c26 <| .callG (R_sign e28) ⟨rfl, trivial⟩ trivial trivial <| .gYt rfl rfl rfl c26 <| .cm rfl rfl rfl <| .pkTb rfl c26 rfl <| .mv rfl <| .gYt rfl rfl rfl c29 <| .ldE (rqC (v17)) rfl rfl ly_ambleref01_Q rfl rfl <| .gYt rfl rfl rfl c29 <| .callG (R_sign e31) ⟨rfl, trivial⟩ trivial trivial <| .gYt rfl rfl rfl c29 <| .cm rfl rfl rfl <| .pkTb rfl c29 rfl <| .nil) rfl ?_
        by_cases c32 : (v30 == 0) = true
        · replace h := ite_pos_some c32 h
          refine .cTb rfl c32 ?_
          by_cases c33 : (v20 == 10) = true
          · replace h := ite_pos_some c33 h
            by_cases c34 : ((v19.length : Int) == 0) = true
            · replace h := ite_pos_some c34 h
              obtain ⟨v35, e36, h⟩ := bind_some h
              refine .reg (.mv rfl <| .cm rfl rfl rfl <| .mv rfl <| .gYt rfl rfl rfl c33 <| .mv rfl <| .gYt rfl rfl rfl c33 <| .lnE rfl is_Lexact_Surd <| .gYt rfl rfl rfl c33 <| .cm rfl rfl rfl <| .pkTb rfl c33 rfl <| .mv rfl <| .gYt rfl rfl rfl c34 <| .callG (C_l_awake e36) trivial trivial trivial <| .pkTb rfl c34 rfl <| .asg rfl <| .nil) rfl ?_
              cases h
              have h := ho1
              clear ho1
              cases h
              refine .retG (fun _ _ hb => hb) rfl (.cons (.tmp rfl) .nil) (.refl _) trivial trivial
            · replace h := ite_neg_some c34 h
              refine .reg (.mv rfl <| .cm rfl rfl rfl <| .mv rfl <| .gYt rfl rfl rfl c33 <| .mv rfl <| .gYt rfl rfl rfl c33 <| .lnE rfl is_Lexact_Surd <| .gYt rfl rfl rfl c33 <| .cm rfl rfl rfl <| .pkTb rfl c33 rfl <| .mv rfl <| .gNt rfl rfl rfl c34 <| .pkFb rfl c34 rfl <| .asg rfl <| .nil) rfl ?_
              cases h
              have h := ho1
              clear ho1
              cases h
              refine .retG (fun _ _ hb => hb) rfl (.cons (.tmp rfl) .nil) (.refl _) trivial trivial
          · replace h := ite_neg_some c33 h
            refine .reg (.mv rfl <| .cm rfl rfl rfl <| .mv rfl <| .gNt rfl rfl rfl c33 <| .gNt rfl rfl rfl c33 <| .gNt rfl rfl rfl c33 <| .pkFb rfl c33 rfl <| .mv rfl <| .gNt rfl rfl rfl (by decide) <| .pkFb rfl (by decide) rfl <| .asg rfl <| .nil) rfl ?_
            cases h
            have h := ho1
            clear ho1
            cases h
            refine .retG (fun _ _ hb => hb) rfl (.cons (.tmp rfl) .nil) (.refl _) trivial trivial
        · replace h := ite_neg_some c32 h
          refine .cFb rfl c32 ?_
          refine .skip (fun _ _ hs => ⟨(), (Option.some.inj h).symm, hs.sub ⟨⟨_, rfl, .refl _⟩, ⟨_, rfl, .refl _⟩, ⟨_, rfl, .refl _⟩, ⟨_, rfl, .refl _⟩, ⟨_, rfl, .refl _⟩, trivial⟩ ⟨⟨_, rfl, .refl _⟩, ⟨_, rfl, .refl _⟩, ⟨_, rfl, .refl _⟩, trivial⟩ rfl rfl⟩)
      · replace h := ite_neg_some c29 h
        refine .reg (.ldE (rqC (v11)) rfl rfl ly_ambleref01_Q rfl rfl <| .callG (R_sign e25) ⟨rfl, trivial⟩ trivial trivial <| .cm rfl rfl rfl <| .mv rfl <| .gYt rfl rfl rfl c26 <| .ldE (rqC (v14)) rfl rfl ly_ambleref01_Q rfl rfl <| .gYt rfl rfl rfl c26 <| .callG (R_sign e28) ⟨rfl, trivial⟩ trivial trivial <| .gYt rfl rfl rfl c26 <| .cm rfl rfl rfl <| .pkTb rfl c26 rfl <| .mv rfl <| .gNt rfl rfl rfl c29 <| .gNt rfl rfl rfl c29 <| .gNt rfl rfl rfl c29 <| .pkFb rfl c29 rfl <| .nil) rfl ?_
        refine .cFb rfl (by decide) ?_
        refine .skip (fun _ _ hs => ⟨(), (Option.some.inj h).symm, hs.sub ⟨⟨_, rfl, .refl _⟩, ⟨_, rfl, .refl _⟩, ⟨_, rfl, .refl _⟩, ⟨_, rfl, .refl _⟩, ⟨_, rfl, .refl _⟩, trivial⟩ ⟨⟨_, rfl, .refl _⟩, ⟨_, rfl, .refl _⟩, ⟨_, rfl, .refl _⟩, trivial⟩ rfl rfl⟩)
    · replace h := ite_neg_some c26 h
      refine .reg (.ldE (rqC (v11)) rfl rfl ly_ambleref01_Q rfl rfl <| .callG (R_sign e25) ⟨rfl, trivial⟩ trivial trivial <| .cm rfl rfl rfl <| .mv rfl <| .gNt rfl rfl rfl c26 <| .gNt rfl rfl rfl c26 <| .gNt rfl rfl rfl c26 <| .pkFb rfl c26 rfl <| .mv rfl <| .gNt rfl rfl rfl (by decide) <| .gNt rfl rfl rfl (by decide) <| .gNt rfl rfl rfl (by decide) <| .pkFb rfl (by decide) rfl <| .nil) rfl ?_
      refine .cFb rfl (by decide) ?_
      refine .skip (fun _ _ hs => ⟨(), (Option.some.inj h).symm, hs.sub ⟨⟨_, rfl, .refl _⟩, ⟨_, rfl, .refl _⟩, ⟨_, rfl, .refl _⟩, ⟨_, rfl, .refl _⟩, ⟨_, rfl, .refl _⟩, trivial⟩ ⟨⟨_, rfl, .refl _⟩, ⟨_, rfl, .refl _⟩, ⟨_, rfl, .refl _⟩, trivial⟩ rfl rfl⟩)
  · rintro ⟨⟩ rfl
    show Ok PP _ [(8, D.ref 8 0), (10, D.ref 10 0), (12, D.ref 12 0), (13, slcE (Enc.prod Enc.rat (Enc.prod Enc.rat Enc.rat)) v19), (14, D.int .i64 v20)] [(8, Hp.box 37 (rqC (v11))), (10, Hp.box 37 (rqC (v14))), (12, Hp.box 37 (rqC (v17)))] _ _
    obtain ⟨v37, e38, h⟩ := bind_some h
    refine .reg (.ldE (rqC (v11)) rfl rfl ly_ambleref01_Q rfl rfl <| .ldE (rqC (v14)) rfl rfl ly_ambleref01_Q rfl rfl <| .ldE (rqC (v17)) rfl rfl ly_ambleref01_Q rfl rfl <| .callG (C_r_Roots e38) ⟨rfl, rfl, rfl, trivial⟩ trivial trivial <| .asg rfl <| .nil) rfl ?_
    refine .sq ?_
    by_cases c39 : (v20 != 0) = true
    · replace h := ite_pos_some c39 h
      refine .reg (.mv rfl <| .cm rfl rfl rfl <| .mv rfl <| .gNf rfl rfl rfl c39 <| .gNf rfl rfl rfl c39 <| .gNf rfl rfl rfl c39 <| .gNf rfl rfl rfl c39 <| .gNf rfl rfl rfl c39 <| .pkTb rfl c39 rfl <| .nil) rfl ?_
      refine .cTb rfl rfl ?_
      refine .reg (.asg rfl <| .nil) rfl ?_
      cases h
      refine .retG (fun _ _ hb => hb) rfl (.cons (.tmp rfl) .nil) (.refl _) trivial trivial
    · replace h := ite_neg_some c39 h
      refine .reg (.mv rfl <| .cm rfl rfl rfl <| .mv rfl <| .gYf rfl rfl rfl c39 <| .mv rfl <| .gYf rfl rfl rfl c39 <| .lnE rfl is_Lexact_Surd <| .gYf rfl rfl rfl c39 <| .mv rfl <| .gYf rfl rfl rfl c39 <| .lnE rfl is_Lambleref01_Surd <| .gYf rfl rfl rfl c39 <| .cm rfl rfl rfl <| .pkFb rfl c39 rfl <| .nil) rfl ?_
      by_cases c40 : ((v19.length : Int) != (v37.length : Int)) = true
      · replace h := ite_pos_some c40 h
        refine .cTb rfl c40 ?_
        refine .reg (.asg rfl <| .nil) rfl ?_
        cases h
        refine .retG (fun _ _ hb => hb) rfl (.cons (.tmp rfl) .nil) (.refl _) trivial trivial
      · replace h := ite_neg_some c40 h
        refine .cFb rfl c40 ?_
        refine .skip (Ok.on ?_)
        obtain ⟨o41, hp42, h⟩ := bind_some h
        refine .cutX (fun i => o41 = Ex.brk i) (fun (i : Unit) => []) (fun (i : Unit) => []) ?_ ?_
        · have ho1 := h
          clear h
          have h := hp42
          clear hp42
          refine .reg (.asg rfl <| .nil) rfl ?_
          obtain ⟨o44, hl45, h⟩ := bind_some h
          have ho2 := h
          clear h
          refine .block (.loopL (fun (s : Int) => [(13, slcE (Enc.prod Enc.rat (Enc.prod Enc.rat Enc.rat)) v19), (15, slcE (Enc.prod Enc.rq (Enc.prod Enc.rq Enc.rq)) v37), (16, D.int .i64 s)]) (fun (s : Int) => []) hl45 ⟨⟨_, rfl, .refl _⟩, ⟨_, rfl, .refl _⟩, ⟨_, rfl, .refl _⟩, trivial⟩ trivial rfl rfl ?_)
          rintro v43 st46 hb47
          have h : m_l_ExactQuadratics_l1 v19 v37 v43 = some st46 := hb47
          clear hb47
          unfold m_l_ExactQuadratics_l1 at h
          show Ok PP _ [(13, slcE (Enc.prod Enc.rat (Enc.prod Enc.rat Enc.rat)) v19), (15, slcE (Enc.prod Enc.rq (Enc.prod Enc.rq Enc.rq)) v37), (16, D.int .i64 v43)] [] _ _
          refine .sq ?_
          refine .reg (.mv rfl <| .mv rfl <| .lnE rfl is_Lexact_Surd <| .cm rfl rfl rfl <| .nil) rfl ?_
          by_cases c48 : (decide (v43 < (v19.length : Int))) = true
          · replace h := ite_pos_some c48 h
            refine .cTb rfl c48 ?_
            refine .skip (Ok.on ?_)
            refine .sq ?_
            refine .block ?_
            obtain ⟨⟨v49, v50, v51⟩, e52, h⟩ := bind_some h
            obtain ⟨⟨v53, v54, v55⟩, e56, h⟩ := bind_some h
            obtain ⟨v57, e58, h⟩ := bind_some h
            refine .regD hmix (.mv rfl <| .mv rfl <| .ixE rfl rfl se_Lexact_Surd (ix_some e52).1 (ix_some e52).2 <| .lpE (l := qC (v49) ++ qC (v50) ++ qC (v51)) rfl ly_exact_Surd rfl <| .mv rfl <| .mv rfl <| .ixE rfl rfl se_Lambleref01_Surd (ix_some e56).1 (ix_some e56).2 <| .lpE (l := rqC (v53) ++ rqC (v54) ++ rqC (v55)) rfl ly_ambleref01_Surd rfl <| .callG (C_l_SameSurd e58) ⟨rfl, rfl, trivial⟩ trivial trivial <| .not rfl <| .nil) rfl (by kernel_rfl) ?_
            by_cases c59 : (!v57) = true
            · replace h := ite_pos_some c59 h
              refine .cTb rfl c59 ?_
              refine .reg (.asg rfl <| .nil) rfl ?_
              refine .retG (Hi := []) (Ho := []) (b := b) (fn := Go.Proofs.Tryz.f13) (d := D.bool false) (fun _ _ hb => by exact ⟨_, (Option.some.inj h).symm, fun e => by subst e; have h := ho2; cases h; have h := ho1; cases h; exact hb⟩) rfl (.cons (.tmp rfl) .nil) (.refl _) trivial trivial
            · replace h := ite_neg_some c59 h
              refine .cFb rfl c59 ?_
              refine .skip (Ok.on ?_)
              refine .region (.mv rfl <| .ar rfl rfl rfl <| .asg rfl <| .nil) rfl (fun _ _ hs => ⟨(IntKind.i64.wrap (v43 + 1)), (Option.some.inj h).symm, hs.sub ⟨⟨_, rfl, .refl _⟩, ⟨_, rfl, .refl _⟩, ⟨_, rfl, .refl _⟩, trivial⟩ trivial rfl rfl⟩)
          · replace h := ite_neg_some c48 h
            refine .cFb rfl c48 ?_
            refine .exit (fun a w hs => ⟨_, (Option.some.inj h).symm, fun e => by subst e; have h := ho2; exact blk_exit (⟨(), (Option.some.inj h).symm, hs.sub trivial trivial rfl rfl⟩)⟩)
        · rintro ⟨⟩ rfl
          show Ok PP _ [] [] _ _
          obtain ⟨v61, e62, h⟩ := bind_some h
          refine .reg (.callG (C_l_awake e62) trivial trivial trivial <| .asg rfl <| .nil) rfl ?_
          cases h
          refine .retG (fun _ _ hb => hb) rfl (.cons (.tmp rfl) .nil) (.refl _) trivial trivial
end
end Go.Am
namespace Go.Am
theorem Surd_B {a b c : Rat} {i j k : Nat} [Bd a i] [Bd b j] [Bd c k] (h : i ≤ 400000000000) (h' : j ≤ 400000000000) (h2 : k ≤ 400000000000) : m_l_SameSurd a b c a b c = some true := by
  unfold m_l_SameSurd
  simp [Same_B h, Same_B h', Same_B h2]
instance Bd.rt {a : Rat} {i : Nat} [h : Bd a i] : Bd (rt a) i := ⟨Nat.le_trans (sz_rt a) h.le⟩
def normX (a b d : Rat) : Rat × Rat × Rat := if issq d then (a + b * rt d, 0, 0) else (a, b / (d.den : Rat), ((d.num : Int) : Rat) * (d.den : Rat))
theorem normal_both (a b d : Rat) (ha : sz a ≤ 10000000) (hb : sz b ≤ 10000000) (hd : sz d ≤ 10000000) (h0 : ¬ d < 0) (hb0 : b ≠ 0) : m_Surd_normal a b d = some (normX a b d) ∧ r_normal a b d = some (normX a b d) := by
  haveI : Bd a 10000000 := ⟨ha⟩
  haveI : Bd b 10000000 := ⟨hb⟩
  haveI : Bd d 10000000 := ⟨hd⟩
  have hs : ¬ sgn b = 0 := fun e => hb0 (sgn_eq0.1 e)
  have qd : qs' d := Nat.le_trans hd (by omega)
  have hden : ((d.den : Nat) : Rat) ≠ 0 := by
    have := d.den_nz
    have h1 : ((d.den : Nat) : Int) ≠ 0 := by omega
    intro h
    apply this
    exact_mod_cast h
  have e1 : q_sqrt d = some (if issq d then (rt d, true) else (0, false)) := must_eq ⟨qd, h0⟩
  constructor
  · unfold m_Surd_normal normX
    by_cases hq : issq d
    · simp [q_sign, hs, e1, hq, q_mulB, q_addB]
    · simp [q_sign, hs, e1, hq, q_den_eq qd, q_overB hden, q_num, q_mulB]
  · have : r_normal a b d = some (normalR a b d) := must_eq ⟨Nat.le_trans ha (by omega), Nat.le_trans hb (by omega), qd, h0⟩
    rw [this]
    unfold normalR normX
    by_cases hq : issq d
    · rw [if_pos hq, if_pos hq]
    · rw [if_neg hq, if_neg hq, if_neg hb0]
      have e : ((d.num * d.den : Int) : Rat) = (d.num : Rat) * ((d.den : Nat) : Rat) := by rw [Rat.intCast_mul]; rfl
      rw [e]
def surdOk (x : Rat × Rat × Rat) : Prop := m_l_SameSurd x.1 x.2.1 x.2.2 x.1 x.2.1 x.2.2 = some true
theorem normX_ok (a b d : Rat) (ha : sz a ≤ 10000000) (hb : sz b ≤ 10000000) (hd : sz d ≤ 10000000) : surdOk (normX a b d) := by
  haveI : Bd a 10000000 := ⟨ha⟩
  haveI : Bd b 10000000 := ⟨hb⟩
  haveI : Bd d 10000000 := ⟨hd⟩
  unfold surdOk normX
  by_cases hq : issq d
  · rw [if_pos hq]; exact Surd_B (by decide) (by decide) (by decide)
  · rw [if_neg hq]; exact Surd_B (by decide) (by decide) (by decide)
def rootsX (a b c : Rat) : List (Rat × Rat × Rat) :=
  if a = 0 then (if b = 0 then [] else [(-(c / b), 0, 0)])
  else if b * b - 4 * a * c < 0 then [] else if b * b - 4 * a * c = 0 then [(-(b / (a + a)), 0, 0)]
  else [normX (-(b / (a + a))) (-(if 1 / (a + a) < 0 then -(1 / (a + a)) else 1 / (a + a))) (b * b - 4 * a * c), normX (-(b / (a + a))) (if 1 / (a + a) < 0 then -(1 / (a + a)) else 1 / (a + a)) (b * b - 4 * a * c)]
theorem q_four : q_int 4 = some 4 := by decide +kernel
instance Bd.four : Bd 4 3 := ⟨by decide +kernel⟩
theorem sgn_cases (x : Rat) : (x < 0 ∧ sgn x = -1) ∨ (x = 0 ∧ sgn x = 0) ∨ (0 < x ∧ sgn x = 1) := by unfold sgn; grind
theorem Roots_is (a b c : Rat) (ha : sz a ≤ 256) (hb : sz b ≤ 256) (hc : sz c ≤ 256) : m_Roots a b c = some (rootsX a b c, if a = 0 ∧ b = 0 ∧ c = 0 then 10 else 0) ∧ m_r_Roots a b c = some (rootsX a b c) ∧ ∀ x ∈ rootsX a b c, surdOk x := by
  haveI : Bd a 256 := ⟨ha⟩
  haveI : Bd b 256 := ⟨hb⟩
  haveI : Bd c 256 := ⟨hc⟩
  have hz : sgn 0 = 0 := rfl
  unfold m_Roots m_r_Roots rootsX
  by_cases a0 : a = 0
  · subst a0
    by_cases b0 : b = 0
    · subst b0
      by_cases c0 : c = 0
      · subst c0; simp [q_sign, hz]
      · have hs : ¬ sgn c = 0 := fun e => c0 (sgn_eq0.1 e)
        simp [q_sign, hz, hs, c0]
    · have hs : ¬ sgn b = 0 := fun e => b0 (sgn_eq0.1 e)
      refine ⟨?_, ?_, ?_⟩
      · simp [q_sign, hz, hs, b0, q_overB b0, q_neg]
      · simp [q_sign, hz, hs, b0, q_overB b0, q_neg, m_r_Rational]
      · intro x hx
        rw [if_pos rfl, if_neg b0, List.mem_singleton] at hx
        subst hx
        exact Surd_B (by decide) (by decide) (by decide)
  · have hs : ¬ sgn a = 0 := fun e => a0 (sgn_eq0.1 e)
    have a2 : a + a ≠ 0 := by grind
    have k1 : (2 : Rat) * a = a + a := by grind
    have k2 : (4 : Rat) * (a * c) = 4 * a * c := by grind
    have hu0 : 1 / (a + a) ≠ 0 := by
      intro h
      have : 1 / (a + a) * (a + a) = 1 := Rat.div_mul_cancel a2
      rw [h] at this
      grind
    have hU : (if 1 / (a + a) < 0 then -(1 / (a + a)) else 1 / (a + a)) ≠ 0 := by split <;> grind
    have hV : -(if 1 / (a + a) < 0 then -(1 / (a + a)) else 1 / (a + a)) ≠ 0 := by split <;> grind
    have sA : sz (-(b / (a + a))) ≤ 10000000 := Nat.le_trans (inferInstance : Bd (-(b / (a + a))) _).le (by decide)
    have sU : sz (if 1 / (a + a) < 0 then -(1 / (a + a)) else 1 / (a + a)) ≤ 10000000 := Nat.le_trans (inferInstance : Bd (if 1 / (a + a) < 0 then -(1 / (a + a)) else 1 / (a + a)) _).le (by decide)
    have sD : sz (b * b - 4 * a * c) ≤ 10000000 := Nat.le_trans (inferInstance : Bd (b * b - 4 * a * c) _).le (by decide)
    have sV : sz (-(if 1 / (a + a) < 0 then -(1 / (a + a)) else 1 / (a + a))) ≤ 10000000 := by rw [sz_neg']; exact sU
    have eA : ∀ v : Rat, q_abs v = some (if v < 0 then -v else v) := fun _ => rfl
    have hall : ¬ (a = 0 ∧ b = 0 ∧ c = 0) := fun h => a0 h.1
    rw [if_neg a0, if_neg hall]
    rcases sgn_cases (b * b - 4 * a * c) with ⟨h1, h2⟩ | ⟨h1, h2⟩ | ⟨h1, h2⟩
    · rw [if_pos h1]
      refine ⟨?_, ?_, fun x hx => by cases hx⟩
      · simp [q_sign, hs, q_mulB, q_four, q_subB, q_addB, q_overB a2, q_neg, q_one, eA, h2]
      · simp [q_sign, hs, q_mulB, q_four, q_two, k1, k2, q_subB, q_overB a2, q_neg, h2]
    · rw [if_neg (by rw [h1]; decide), if_pos h1]
      refine ⟨?_, ?_, fun x hx => ?_⟩
      · simp [q_sign, hs, q_mulB, q_four, q_subB, q_addB, q_overB a2, q_neg, q_one, eA, h2]
      · simp [q_sign, hs, q_mulB, q_four, q_two, k1, k2, q_subB, q_overB a2, q_neg, h2, m_r_Rational]
      · rw [List.mem_singleton] at hx
        subst hx
        exact Surd_B (by decide) (by decide) (by decide)
    · have hn : ¬ (b * b - 4 * a * c < 0) := by grind
      have hn0 : ¬ (b * b - 4 * a * c = 0) := by grind
      rw [if_neg hn, if_neg hn0]
      obtain ⟨n1, n2⟩ := normal_both _ _ _ sA sV sD hn hV
      obtain ⟨n3, n4⟩ := normal_both _ _ _ sA sU sD hn hU
      refine ⟨?_, ?_, fun x hx => ?_⟩
      · simp [q_sign, hs, q_mulB, q_four, q_subB, q_addB, q_overB a2, q_neg, q_one, eA, h2, n1, n3]
      · simp [q_sign, hs, q_mulB, q_four, q_two, q_one, k1, k2, q_subB, q_overB a2, q_neg, h2, eA, n2, n4]
      · rcases List.mem_cons.1 hx with rfl | hx
        · exact normX_ok _ _ _ sA sV sD
        · rw [List.mem_singleton] at hx
          subst hx
          exact normX_ok _ _ _ sA sU sD
theorem quad_loop (l : List (Rat × Rat × Rat)) (hl : l.length ≤ 2) (h : ∀ x ∈ l, surdOk x) : Loop (fun (s : Int) => m_l_ExactQuadratics_l1 l l s) 0 = some (Ex.brk ()) := by
  obtain ⟨r, hr, rfl⟩ := Loop_run (body := fun (s : Int) => m_l_ExactQuadratics_l1 l l s) 0 (fun s => ∃ i : Nat, i ≤ l.length ∧ s = (i : Int)) (fun s => (l.length - s).toNat) (fun r => r = Ex.brk ()) ⟨0, Nat.zero_le _, rfl⟩ (by
    rintro s ⟨i, hi, rfl⟩
    unfold m_l_ExactQuadratics_l1
    by_cases hlt : i < l.length
    · left
      have ho := h l[i] (List.getElem_mem hlt)
      unfold surdOk at ho
      rw [if_pos (decide_eq_true (by omega)), ix_get hlt]
      simp only [Option.bind_some, ho, Bool.not_true, Bool.false_eq_true, if_false]
      have ew : IntKind.i64.wrap ((i : Int) + 1) = ((i + 1 : Nat) : Int) := by rw [i64_in (by omega)]; omega
      rw [ew]
      exact ⟨_, rfl, ⟨i + 1, hlt, rfl⟩, by omega⟩
    · right
      rw [if_neg (by simp; omega)]
      exact ⟨_, rfl, rfl⟩)
  exact hr
theorem rootsX_len (a b c : Rat) : (rootsX a b c).length ≤ 2 := by
  unfold rootsX
  split
  · split <;> simp
  · split
    · simp
    · split <;> simp
theorem Quadratics_true (a1 a2 a3 a4 a5 a6 a7 a8 a9 : Int) (h1 : i64r a1) (h2 : i64r a2) (h3 : 0 ≤ a3 ∧ a3 ≤ 255) (h4 : i64r a4) (h5 : i64r a5) (h6 : 0 ≤ a6 ∧ a6 ≤ 255) (h7 : i64r a7) (h8 : i64r a8) (h9 : 0 ≤ a9 ∧ a9 ≤ 255) :
    m_l_ExactQuadratics a1 a2 a3 a4 a5 a6 a7 a8 a9 = some true := by
  obtain ⟨e1, s1⟩ := Both_is a1 a2 a3 h1 h2 h3
  obtain ⟨e2, s2⟩ := Both_is a4 a5 a6 h4 h5 h6
  obtain ⟨e3, s3⟩ := Both_is a7 a8 a9 h7 h8 h9
  unfold m_l_ExactQuadratics
  rw [e1, e2, e3]
  generalize bothX a1 a2 a3 = x at *
  generalize bothX a4 a5 a6 = y at *
  generalize bothX a7 a8 a9 = z at *
  obtain ⟨r1, r2, r3⟩ := Roots_is x y z s1 s2 s3
  have hz : sgn 0 = 0 := rfl
  have hloop := quad_loop (rootsX x y z) (rootsX_len x y z) r3
  simp only [Option.bind_some, r1, r2]
  by_cases hall : x = 0 ∧ y = 0 ∧ z = 0
  · obtain ⟨rfl, rfl, rfl⟩ := hall
    have e : rootsX 0 0 0 = [] := by simp [rootsX]
    simp [q_sign, hz, e, awake_true]
  · by_cases x0 : x = 0
    · by_cases y0 : y = 0
      · have z0 : ¬ sgn z = 0 := fun e => hall ⟨x0, y0, sgn_eq0.1 e⟩
        have z1 : ¬ z = 0 := fun e => hall ⟨x0, y0, e⟩
        subst x0; subst y0
        simp [q_sign, hz, z0, z1, hloop, awake_true]
      · have : ¬ sgn y = 0 := fun e => y0 (sgn_eq0.1 e)
        simp [q_sign, hz, this, if_neg hall, hloop, awake_true, sgn_eq0]
    · have : ¬ sgn x = 0 := fun e => x0 (sgn_eq0.1 e)
      simp [q_sign, hz, this, if_neg hall, hloop, awake_true]
end Go.Am
