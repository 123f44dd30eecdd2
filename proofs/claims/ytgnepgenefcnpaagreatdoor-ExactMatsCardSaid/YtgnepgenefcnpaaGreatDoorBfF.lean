/- Part 6 of 9 of what the laws of layer 1 share: contracts of functions of the program, each for every argument of its description; no condition beyond it. -/
import Derived.Test.YtgnepgenefcnpaaGreatDoorBfE
set_option linter.unusedVariables false
set_option linter.unusedSimpArgs false
namespace Go.Am
class Bd (x : Rat) (n : outParam Nat) : Prop where
  le : sz x ≤ n
instance Bd.mul {a b : Rat} {i j : Nat} [h : Bd a i] [k : Bd b j] : Bd (a * b) (i + j) := ⟨by have := sz_mul a b; have := h.le; have := k.le; omega⟩
theorem Bd.qs {x : Rat} {n : Nat} [h : Bd x n] (k : n ≤ 400000000000) : qs' x := Nat.le_trans h.le k
theorem q_add_eq {a b : Rat} (h : qs' a) (k : qs' b) : q_add a b = some (a + b) := must_eq ⟨h, k⟩
theorem q_mul_eq {a b : Rat} (h : qs' a) (k : qs' b) : q_mul a b = some (a * b) := must_eq ⟨h, k⟩
theorem q_text_eq {a : Rat} (h : qs' a) : q_text a = some (txt a) := must_eq h
theorem Same_self {a : Rat} (h : qs' a) : m_l_Same a a = some true := by
  unfold m_l_Same
  rw [q_text_eq h]
  simp
def bothX (n d p : Int) : Rat := ((n : Rat) / (((if d = 0 then 1 else d) : Int) : Rat)) ^ (1 + (p % 4).toNat)
theorem div_mk (n d : Int) (hd : d ≠ 0) : (n : Rat) / (d : Rat) = mkRat (if d < 0 then -n else n) d.natAbs := by
  rw [Rat.mkRat_eq_div]
  by_cases h : d < 0
  · rw [if_pos h]
    have e : ((d.natAbs : Nat) : Rat) = -(d : Rat) := by
      have : ((d.natAbs : Nat) : Int) = -d := by omega
      have h2 : ((d.natAbs : Nat) : Rat) = (((d.natAbs : Nat) : Int) : Rat) := rfl
      rw [h2, this, Rat.intCast_neg]
    rw [e, Rat.intCast_neg]; grind
  · rw [if_neg h]
    have e : ((d.natAbs : Nat) : Rat) = (d : Rat) := by
      have : ((d.natAbs : Nat) : Int) = d := by omega
      have h2 : ((d.natAbs : Nat) : Rat) = (((d.natAbs : Nat) : Int) : Rat) := rfl
      rw [h2, this]
    rw [e]
theorem sz_frac {n d : Int} (hn : i64r n) (hd : i64r d) (h0 : d ≠ 0) : sz ((n : Rat) / (d : Rat)) ≤ 64 := by
  rw [div_mk n d h0]
  unfold i64r at hn hd
  refine sz_mk _ _ _ (by omega) (blen_small ?_) (blen_small ?_)
  · split <;> omega
  · omega
theorem Both_is (n d p : Int) (hn : i64r n) (hd : i64r d) (hp : 0 ≤ p ∧ p ≤ 255) : m_l_Both n d p = some (bothX n d p, bothX n d p) ∧ sz (bothX n d p) ≤ 256 := by
  obtain ⟨D, hD⟩ : ∃ D, D = if d = 0 then 1 else d := ⟨_, rfl⟩
  have hD0 : D ≠ 0 := by rw [hD]; split <;> omega
  have hDr : i64r D := by
    rw [hD]; unfold i64r at hd ⊢
    split <;> omega
  have hx : sz ((n : Rat) / (D : Rat)) ≤ 64 := sz_frac hn hDr hD0
  generalize hX : (n : Rat) / (D : Rat) = X at hx
  have hpow : ∀ i : Nat, sz (X ^ (1 + i)) ≤ 64 * (1 + i) := by
    intro i
    induction i with
    | zero => simpa using hx
    | succ i ih =>
      rw [show 1 + (i + 1) = (1 + i) + 1 by omega, Rat.pow_succ]
      have := sz_mul (X ^ (1 + i)) X
      omega
  have hm : Int.tmod p 4 = p % 4 := Int.tmod_eq_emod_of_nonneg hp.1
  have hb : bothX n d p = X ^ (1 + (p % 4).toNat) := by unfold bothX; rw [← hD, hX]
  refine ⟨?_, by rw [hb]; have := hpow (p % 4).toNat; omega⟩
  unfold m_l_Both
  have e1 : (if (d == 0) = true then some 1 else some d) = some D := by rw [hD]; by_cases h : d = 0 <;> simp [h]
  have e2 : q_of n D = some (X, 0) := by
    unfold q_of
    rw [must_eq ⟨hn, hDr⟩, if_neg hD0, hX]
  have e3 : r_of n D = some X := by
    unfold r_of
    rw [must_eq ⟨hn, hDr, hD0⟩, hX]
  rw [e1]
  simp only [Option.bind_some]
  rw [e2]
  simp only [Option.bind_some]
  rw [e3]
  simp only [Option.bind_some]
  obtain ⟨r, hr, rfl⟩ := Loop_run (body := fun (s : Int × Rat × Rat) => m_l_Both_l1 p X X s.1 s.2.1 s.2.2) (0, X, X) (fun s => ∃ i : Nat, i ≤ (p % 4).toNat ∧ s = ((i : Int), X ^ (1 + i), X ^ (1 + i))) (fun s => (4 - s.1).toNat) (fun r => r = (X ^ (1 + (p % 4).toNat), X ^ (1 + (p % 4).toNat))) ⟨0, Nat.zero_le _, by simp⟩ (by
    rintro s ⟨i, hi, rfl⟩
    simp only
    unfold m_l_Both_l1
    rw [hm]
    by_cases h : (i : Int) < p % 4
    · left
      have h1 : qs' (X ^ (1 + i)) := Nat.le_trans (hpow i) (by omega)
      have h2 : qs' X := Nat.le_trans hx (by omega)
      rw [if_pos (decide_eq_true h), q_mul_eq h1 h2]
      simp only [Option.bind_some]
      have h3 : IntKind.u8.wrap ((i : Int) + 1) = (i : Int) + 1 := u8_in' _ (by omega)
      rw [h3]
      refine ⟨_, rfl, ⟨i + 1, by omega, ?_⟩, by omega⟩
      rw [show 1 + (i + 1) = (1 + i) + 1 by omega, Rat.pow_succ]; rfl
    · right
      rw [if_neg (by simpa using h)]
      refine ⟨_, rfl, ?_⟩
      have : i = (p % 4).toNat := by omega
      rw [this])
  rw [hr, hb]
  rfl
end Go.Am
namespace Go.Am
theorem awake_true : m_l_awake = some true := by decide +kernel
end Go.Am
namespace Go.Am
open Go.RowKit
set_option maxRecDepth 100000
noncomputable section
end
end Go.Am
namespace Go.Am
def numOk (x : Int × Int × Int) : Prop := i64r x.1 ∧ i64r x.2.1 ∧ 0 ≤ x.2.2 ∧ x.2.2 ≤ 255
def boths (l : List (Int × Int × Int)) : List Rat := l.map fun x => bothX x.1 x.2.1 x.2.2
theorem getD_lt {α : Type} {l : List α} {d : α} {i : Nat} (h : i < l.length) : l.getD i d = l[i] := by simp [List.getD, h]
theorem getD_ge {α : Type} {l : List α} {d : α} {i : Nat} (h : l.length ≤ i) : l.getD i d = d := by simp [List.getD, h]
theorem ixD {α : Type} (l : List α) (d : α) (i : Nat) (h : i < l.length) : ix l (i : Int) = some (l.getD i d) := by
  rw [ix_get h, getD_lt h]
theorem wrap1 {i n : Nat} (h : i < n) (hn : n ≤ 1000) : IntKind.i64.wrap ((i : Int) + 1) = ((i + 1 : Nat) : Int) := by
  rw [i64_in (by omega)]; omega
theorem boths_sz {l : List (Int × Int × Int)} (h : ∀ x ∈ l, numOk x) (i : Nat) : sz ((boths l).getD i 0) ≤ 256 := by
  by_cases hi : i < (boths l).length
  · rw [getD_lt hi]
    have hi' : i < l.length := by simpa [boths] using hi
    simp only [boths, List.getElem_map]
    have := h l[i] (List.getElem_mem hi')
    exact (Both_is _ _ _ this.1 this.2.1 this.2.2).2
  · rw [getD_ge (by omega)]; decide
theorem List_is (l : List (Int × Int × Int)) (h : ∀ x ∈ l, numOk x) (hl : l.length ≤ 30) : m_l_List l = some (boths l, boths l) := by
  unfold m_l_List
  obtain ⟨r, hr, rfl⟩ := Loop_run (body := fun (s : Int × (List Rat) × (List Rat)) => m_l_List_l1 l s.1 s.2.1 s.2.2) (0, [], []) (fun s => ∃ i : Nat, i ≤ l.length ∧ s = ((i : Int), (boths l).take i, (boths l).take i)) (fun s => (l.length - s.1).toNat) (fun r => r = (boths l, boths l)) ⟨0, Nat.zero_le _, by simp⟩ (by
    rintro s ⟨i, hi, rfl⟩
    simp only
    unfold m_l_List_l1
    by_cases hlt : i < l.length
    · left
      have hb : i < (boths l).length := by simpa [boths] using hlt
      have hm : (boths l).length = l.length := by simp [boths]
      have hx : ix l (i : Int) = some l[i] := by
        unfold ix
        rw [if_pos (by omega), Int.toNat_natCast, List.getElem?_eq_getElem hlt]
      have ho := h l[i] (List.getElem_mem hlt)
      have hB := (Both_is _ _ _ ho.1 ho.2.1 ho.2.2).1
      rw [if_pos (decide_eq_true (by omega)), hx]
      simp only [Option.bind_some]
      rw [hB]
      simp only [Option.bind_some]
      have ht : ((boths l).take i).length = i := by rw [List.length_take]; omega
      rw [must_eq (by rw [ht]; simp only [List.length_cons, List.length_nil]; omega), must_eq (by rw [ht]; simp only [List.length_cons, List.length_nil]; omega), wrap1 hlt (by omega)]
      have e : bothX l[i].1 l[i].2.1 l[i].2.2 = (boths l)[i] := by simp [boths]
      rw [e]
      refine ⟨_, rfl, ⟨i + 1, hlt, ?_⟩, by simp only; omega⟩
      rw [List.take_succ_eq_append_getElem hb]
    · right
      rw [if_neg (by simp; omega)]
      refine ⟨_, rfl, ?_⟩
      have : i = (boths l).length := by simp [boths]; omega
      rw [this, List.take_length])
  rw [hr]
  rfl
end Go.Am
namespace Go.Am
theorem q_addB {a b : Rat} {i j : Nat} [Bd a i] [Bd b j] (h : i ≤ 400000000000) (k : j ≤ 400000000000) : q_add a b = some (a + b) := q_add_eq (Bd.qs h) (Bd.qs k)
theorem q_mulB {a b : Rat} {i j : Nat} [Bd a i] [Bd b j] (h : i ≤ 400000000000) (k : j ≤ 400000000000) : q_mul a b = some (a * b) := q_mul_eq (Bd.qs h) (Bd.qs k)
end Go.Am
namespace Go.Am
open Go.RowKit
def D.mr (s k : Nat) : D where
  p := fun ε _ _ v => v.oneCell' = true ∧ ∃ vs : Array Value, ε s = .agg vs ∧ vs[k]? = some v
  nm := [s]
  sh := .one
  mono := fun h he _ => by rw [he _ (by simp)]; exact h
  shok := fun h => h.1
def D.mc (s k off : Nat) : D where
  p := fun ε _ _ v => ∃ (vs : Array Value) (u : Value), ε s = .agg vs ∧ vs[k]? = some u ∧ v = .pointer (some ⟨blk u, off, none⟩)
  nm := [s]
  sh := .one
  mono := fun h he _ => by rw [he _ (by simp)]; exact h
  shok := fun ⟨_, _, _, _, e⟩ => by subst e; rfl
def Hp.store {α : Type} (e : Enc α) (te : TypeId) (M : List (List α)) : Hp where
  p := fun ε w S b F => ∃ (vs : Array Value) (G : Nat → Reg), b = .agg vs ∧ vs.size = M.length ∧
    (∀ k xs v, M[k]? = some xs → vs[k]? = some v → (rowE e te xs).p ε w S v (G k)) ∧
    (∀ k k', k < M.length → k' < M.length → k ≠ k' → ∀ i, G k i → ¬ G k' i) ∧ (∀ i, F i ↔ ∃ k, k < M.length ∧ G k i)
  nm := []
  mono := fun ⟨vs, G, h1, h2, h3, h4, h5⟩ he hS hF => ⟨vs, G, h1, h2, fun k xs v hx hv => (rowE e te xs).mono (h3 k xs v hx hv) (fun r hr => by cases hr) hS (fun i hi => hF i ((h5 i).2 ⟨k, (List.getElem?_eq_some_iff.1 hx).1, hi⟩)), h4, h5⟩
def rowP (m : Nat) (ty : TypeId) (l : List D) (ε : Env) (w : World) (S : Reg) (b : Value) (F : Reg) : Prop :=
  (l = [] ∧ b = .slice none 0 0 ∧ F = noBlocks) ∨
    ∃ (g n cap : Nat) (cs rest : List Value), b = .slice (some ⟨g, 0, none⟩) n cap ∧ F = only g ∧ w.heap[g]? = some (.cells (cs ++ rest).toArray ty (0, 0)) ∧ (∀ u ∈ cs, u.oneCell' = true) ∧ (cs ++ rest).length = cap * m ∧ cap ≤ maxLen ∧ l.length = n * m ∧ all2 ε w S l cs
theorem rowP_mono {m : Nat} {ty : TypeId} {l : List D} {ε ε' : Env} {w w' : World} {S S' : Reg} {b : Value} {F : Reg} (h : rowP m ty l ε w S b F) (he : ∀ r ∈ nms l, ε' r = ε r) (hS : ∀ k, S k → k < w.heap.size → S' k ∧ w'.heap[k]? = w.heap[k]?) (hF : ∀ k, F k → w'.heap[k]? = w.heap[k]?) : rowP m ty l ε' w' S' b F := by
  rcases h with h | ⟨g, n, cap, cs, rest, h1, h2, h3, h4, h5, h8, h6, h7⟩
  · exact .inl h
  · exact .inr ⟨g, n, cap, cs, rest, h1, h2, (hF g (by rw [h2]; rfl)).trans h3, h4, h5, h8, h6, all2_mono hS h7 he⟩
def mcells (s n : Nat) : List D := (List.range n).map (D.mr s)
theorem mcells_nm {s n r : Nat} (h : r ∈ nms (mcells s n)) : r = s := by
  obtain ⟨d, hd, hr⟩ := nms_mem.1 h
  obtain ⟨k, _, rfl⟩ := List.mem_map.1 hd
  simpa [D.mr] using hr
theorem nms_slices {α : Type} (e : Enc α) (X : List (List α)) : nms (X.map (slcE e)) = [] := by
  induction X with
  | nil => rfl
  | cons x X ih => exact ih
def Hp.mat {α : Type} (e : Enc α) (te : TypeId) (s : Nat) (X : List (List α)) : Hp where
  p := fun ε w S b F => ∃ vs : Array Value, ε s = .agg vs ∧ rowP 1 te (mcells s vs.size ++ X.map (slcE e)) ε w S b F
  nm := [s]
  mono := fun ⟨vs, h1, h2⟩ he hS hF => ⟨vs, by rw [he _ (by simp)]; exact h1, rowP_mono h2 (fun r hr => by
    rcases nms_mem.1 hr with ⟨d, hd, hr'⟩
    rcases List.mem_append.1 hd with hd | hd
    · exact he _ (by rw [mcells_nm (nms_mem.2 ⟨d, hd, hr'⟩)]; simp)
    · have := nms_mem.2 ⟨d, hd, hr'⟩
      rw [nms_slices] at this
      cases this) hS hF⟩
theorem SatE.regroup {c : Ctx} {T : Nat → Option D} {H : Nat → Option Hp} {a : Act} {w : World} {ε ε' : Env} {φ φ' : Nat → Reg} (h : SatE c T H a w ε φ) {L : List (Nat × Hp)}
    (hε : ∀ q, H q ≠ none → ε' q = ε q)
    (hφ : ∀ q, hget L q = none → φ' q = φ q)
    (hF : ∀ q k, hget L q ≠ none → φ' q k → ∃ q', H q' ≠ none ∧ hget L q' ≠ none ∧ φ q' k)
    (hdj : ∀ q q', hget L q ≠ none → hget L q' ≠ none → q ≠ q' → ∀ k, φ' q k → ¬ φ' q' k)
    (hp : ∀ q x, hget L q = some x → x.p ε' w (reg c (updH H L) φ') (ε' q) (φ' q))
    (hn : ∀ q x, hget L q = some x → ∀ q' ∈ x.nm, H q' ≠ none ∨ hget L q' ≠ none) :
    SatE c T (updH H L) a w ε' φ' ∧ (∀ k, reg c H φ k → reg c (updH H L) φ' k) := by
  have hU : ∀ r, updH H L r ≠ none ↔ (hget L r ≠ none ∨ H r ≠ none) := by
    intro r
    simp only [updH]
    cases hget L r <;> simp
  have hreg : ∀ k, reg c H φ k → reg c (updH H L) φ' k := by
    intro k hk
    refine ⟨hk.1, fun r hr hf => ?_⟩
    by_cases hL : hget L r = none
    · rw [hφ r hL] at hf
      exact hk.2 r (((hU r).1 hr).resolve_left (fun h => h hL)) hf
    · obtain ⟨q', h1, _, h3⟩ := hF r k hL hf
      exact hk.2 q' h1 h3
  have hS : ∀ k, reg c H φ k → k < w.heap.size → reg c (updH H L) φ' k ∧ w.heap[k]? = w.heap[k]? := fun k hk _ => ⟨hreg k hk, rfl⟩
  refine ⟨?_, hreg⟩
  constructor
  · exact fun t d ht => d.mono (h.t t d ht) (fun r hr => hε r (h.tn t d ht r hr)) hS
  · exact fun t d ht r hr => (hU r).2 (.inr (h.tn t d ht r hr))
  · intro r x hr
    by_cases hL : hget L r = none
    · have hr0 : H r = some x := by simpa only [updH, hL] using hr
      rw [hφ r hL, hε r (by rw [hr0]; simp)]
      exact x.mono (h.h r x hr0) (fun r2 h2 => hε r2 (h.hn r x hr0 r2 h2)) hS (fun _ _ => rfl)
    · cases hq : hget L r with
      | none => exact absurd hq hL
      | some y =>
        have : y = x := by simp only [updH, hq] at hr; injection hr
        subst this
        exact hp r y hq
  · intro r x hr r' hr'
    by_cases hL : hget L r = none
    · have hr0 : H r = some x := by simpa only [updH, hL] using hr
      exact (hU r').2 (.inr (h.hn r x hr0 r' hr'))
    · cases hq : hget L r with
      | none => exact absurd hq hL
      | some y =>
        have : y = x := by simp only [updH, hq] at hr; injection hr
        subst this
        exact (hU r').2 ((hn r y hq r' hr').symm)
  · intro r hr k hk
    by_cases hL : hget L r = none
    · rw [hφ r hL] at hk
      exact h.lo r (((hU r).1 hr).resolve_left (fun h => h hL)) k hk
    · obtain ⟨q', h1, _, h3⟩ := hF r k hL hk
      exact h.lo q' h1 k h3
  · intro r r' hr hr' hne k hk
    have old : ∀ q, updH H L q ≠ none → hget L q = none → H q ≠ none := fun q h1 h2 => ((hU q).1 h1).resolve_left (fun h => h h2)
    by_cases hL : hget L r = none
    · have h0 := old r hr hL
      rw [hφ r hL] at hk
      by_cases hL' : hget L r' = none
      · rw [hφ r' hL']
        exact h.dj r r' h0 (old r' hr' hL') hne k hk
      · intro hk'
        obtain ⟨q', h1, h2, h3⟩ := hF r' k hL' hk'
        exact h.dj r q' h0 h1 (fun e => by subst e; exact h2 hL) k hk h3
    · by_cases hL' : hget L r' = none
      · rw [hφ r' hL']
        intro hk'
        obtain ⟨q', h1, h2, h3⟩ := hF r k hL hk
        exact h.dj q' r' h1 (old r' hr' hL') (fun e => by subst e; exact h2 hL') k h3 hk'
      · exact hdj r r' hL hL' hne k hk
  · exact h.bel
  · exact h.bs
  · exact h.sz
  · exact h.df
end Go.Am
namespace Go.Am
open Go.RowKit
theorem mcells_len (s n : Nat) : (mcells s n).length = n := by simp [mcells]
theorem rowP_sl {m : Nat} {te : TypeId} {l : List D} {n : Nat} {ε : Env} {w : World} {S : Reg} {b : Value} {F : Reg} (hm : 0 < m) (hl : l.length = n * m) (h : rowP m te l ε w S b F) : ∃ A cap, b = .slice A n cap ∧ (0 < n → A = some ⟨blk b, 0, none⟩) := by
  rcases h with ⟨h0, hb, _⟩ | ⟨g, n', cap, cs, rest, hb, _, _, _, _, _, hln, _⟩
  · subst h0
    have : n = 0 := by rcases Nat.mul_eq_zero.1 (show n * m = 0 from hl.symm) with h | h <;> omega
    subst this
    exact ⟨none, 0, hb, fun h => by omega⟩
  · have := Nat.eq_of_mul_eq_mul_right hm (hln.symm.trans hl)
    subst this
    exact ⟨some ⟨g, 0, none⟩, cap, hb, fun _ => by rw [hb]; rfl⟩
section
variable {P : Program} {os : List Oper} {c : Ctx} {T T' : List (Nat × D)} {H H' : List (Nat × Hp)} {sps : List Spec}
variable {ops : Array Oper} {dst : Option Nat} {ty : TypeId} {pos : String} {aft : Array Edge}
variable {α : Type} {e : Enc α} {te tr : TypeId} {r s : Nat} {M X : List (List α)}
theorem mat_row {ε : Env} {w : World} {S : Reg} {b : Value} {F F' : Reg} (h1 : (Hp.mat e te s X).p ε w S b F) (h2 : (Hp.store e tr M).p ε w S (ε s) F') : rowP 1 te (mcells s M.length ++ X.map (slcE e)) ε w S b F := by
  obtain ⟨vs, e1, h1⟩ := h1
  obtain ⟨vs', G, e2, e3, _⟩ := h2
  rw [e1] at e2
  injection e2 with e2
  subst e2
  rwa [e3] at h1
theorem put_with {a : Act} {w : World} {ε : Env} {φ : Nat → Reg} {t : Nat} {d : D} {K : Nat → Option Hp} (hs : SatE c (tget T) K a w ε φ) (hp : d.p ε w (Am.reg c K φ) (a.tmps.getD t undef)) (hn : ∀ r ∈ d.nm, K r ≠ none) : SatE c (tget ((t, d) :: T)) K a w ε φ := by
  refine { hs with t := ?_, tn := ?_ }
  · intro t' d' hd
    simp only [tget] at hd
    cases hb : Nat.beq t' t with
    | true => rw [hb] at hd; injection hd with hd; subst hd; rw [Nat.eq_of_beq_eq_true hb]; exact hp
    | false => rw [hb] at hd; exact hs.t t' d' hd
  · intro t' d' hd r hr
    simp only [tget] at hd
    cases hb : Nat.beq t' t with
    | true => rw [hb] at hd; injection hd with hd; subst hd; exact hn r hr
    | false => rw [hb] at hd; exact hs.tn t' d' hd r hr
theorem Ok.slM {x : Code} {Q : Exit → Act → World → Prop} (t : Nat) (ht : tget T t = some (.own r)) (hh : hget H r = some (.mat e te s X)) (hk : hget H s = some (.store e tr M))
    (h : Ok P c ((t, .sl r (M.length + X.length)) :: T) H x Q) : Ok P c T H x Q := by
  intro a w ⟨ε, φ, hs⟩
  have hv : a.tmps.getD t undef = ε r := (hs.t t _ ht).1
  have hrow := mat_row (hs.h r _ hh) (hs.h s _ hk)
  obtain ⟨A, cap, h1, h2⟩ := rowP_sl (n := M.length + X.length) (by decide) (by simp [mcells_len]) hrow
  refine h a w ⟨ε, φ, put_with hs ⟨hv, A, cap, by rw [hv, h1], h2⟩ (fun r' hr' => ?_)⟩
  have : r' = r := by simpa [D.sl] using hr'
  subst this; rw [hh]; simp
def rr2 (xs : List (Operand × D)) (r : Nat) (h : Hp) (s : Nat) (k : Hp) (out : D) : Spec := { ins := xs.flatMap fun x => need x.1 x.2, hin := [(r, h), (s, k)], out := out, hout := [], news := [] }
theorem Runs.ask2 {o : Oper} {xs : List (Operand × D)} {h k : Hp} {d : D} (hg : o.guard = none) (he : ∀ x ∈ xs, ev T x.1 = some x.2) (hh : hget H r = some h) (hk : hget H s = some k) (hnm : ∀ r' ∈ d.nm, r' = r ∨ r' = s)
    (hrun : ∀ (ε : Env) (w : World) (S : Reg) (a : Act) (F F' : Reg), (∀ x ∈ xs, x.2.p ε w S (a.eval x.1)) → h.p ε w S (ε r) F → k.p ε w S (ε s) F' → ∃ v, (execOp a.eval o).run P w = .ok (.value v) w ∧ d.p ε w S v)
    (hr : Runs P ops c os (tput T o.dst d) H sps T' H') : Runs P ops c (o :: os) T H (rr2 xs r h s k d :: sps) T' H' := by
  refine .cons (sp := rr2 xs r h s k d) ?_ (needs_ok he) ⟨hh, hk, trivial⟩ trivial hr
  intro hd T0 H0 hi hin _ a w ⟨ε, φ, hs⟩ Q K hK
  rw [if_pos (cell_wanted hg _)]
  have hxs := insOk_needs hi
  obtain ⟨v, hv, hp⟩ := hrun ε w (Am.reg c H0 φ) a (φ r) (φ s) (fun x hx => (hs.ev (hxs x hx) (ev_split (he x hx)).2).1) (hs.h r h hin.1) (hs.h s k hin.2.1)
  simp only [Oper.wp, hv, Oper.upon]
  refine hK _ _ ⟨ε, φ, hs.put (d := d) (dst_lt hd) hp (fun r' hr' => ?_)⟩
  rcases hnm r' hr' with rfl | rfl
  · show H0 _ ≠ none; rw [hin.1]; simp
  · show H0 _ ≠ none; rw [hin.2.1]; simp
theorem mat_cell {t : TypeId} {z m : Nat} {x : Operand} {d : D} (hd : (mcells s M.length ++ X.map (slcE e))[z]? = some d) (hm : m = 1) (ht : lay P t = some none) (h : ev T x = some (.ref r (z * m))) (hh : hget H r = some (.mat e te s X)) (hk : hget H s = some (.store e tr M)) (hnm : ∀ r' ∈ d.nm, r' = r ∨ r' = s)
    (hr : Runs P ops c os (tput T dst d) H sps T' H') : Runs P ops c (⟨dst, .load t x, ty, pos, aft, none⟩ :: os) T H (rr2 [(x, .ref r (z * m))] r (.mat e te s X) s (.store e tr M) d :: sps) T' H' :=
  .ask2 rfl (by simpa using h) hh hk hnm (fun ε w S a F F' ha h1 h2 => by
    subst hm
    have hrow := mat_row h1 h2
    have hx : a.eval x = .pointer (some ⟨blk (ε r), z * 1, none⟩) := ha (x, .ref r (z * 1)) (by simp)
    rw [Nat.mul_one] at hx
    rcases hrow with ⟨h, _, _⟩ | ⟨g, n', cap, cs, rest, hb, _, hg, _, _, _, _, hc⟩
    · rw [h] at hd; simp at hd
    · obtain ⟨v, hv, hp⟩ := all2_get hc hd
      have hlt := (List.getElem?_eq_some_iff.1 hv).1
      refine ⟨v, ?_, hp⟩
      rw [hb] at hx
      simp only [execOp, hx, blk, Instr.loadAt, Instr.sureAddr, Sem.run_bind, Sem.run_pure, Result.andThen_ok, loadVar, (lay_one ht w).1, Bool.false_eq_true, if_false, run_load, box_cell hg, List.getElem?_append_left hlt, hv]) hr
theorem Runs.ldM {t : TypeId} {z : Int} {m : Nat} {x : Operand} (hz : z.toNat < M.length) (h : ev T x = some (.ref r (z.toNat * m))) (hh : hget H r = some (.mat e te s X)) (hk : hget H s = some (.store e tr M)) (hm : m = 1) (ht : lay P t = some none)
    (hr : Runs P ops c os (tput T dst (.mr s z.toNat)) H sps T' H') : Runs P ops c (⟨dst, .load t x, ty, pos, aft, none⟩ :: os) T H (rr2 [(x, .ref r (z.toNat * m))] r (.mat e te s X) s (.store e tr M) (.mr s z.toNat) :: sps) T' H' :=
  mat_cell (by rw [List.getElem?_append_left (by rw [mcells_len]; exact hz)]; simp [mcells, hz]) hm ht h hh hk (fun r' hr' => .inr (by simpa [D.mr] using hr')) hr
theorem store_row {k : Nat} {xs : List α} {ε : Env} {w : World} {S : Reg} {F : Reg} {v : Value} (hM : M[k]? = some xs) (h : (Hp.store e tr M).p ε w S (ε s) F) (hv : (D.mr s k).p ε w S v) : ∃ G, (rowE e tr xs).p ε w S v G := by
  obtain ⟨_, vs, e1, e2⟩ := hv
  obtain ⟨vs', G, e3, _, e4, _⟩ := h
  rw [e1] at e3
  injection e3 with e3
  subst e3
  exact ⟨G k, e4 k xs v hM e2⟩
theorem Runs.ixM {t : TypeId} {x y : Operand} {k m : Nat} {kd : IntKind} {z : Int} {xs : List α} (hx : ev T x = some (.mr s k)) (hy : ev T y = some (.int kd z)) (hh : hget H s = some (.store e tr M)) (hM : M[k]? = some xs) (ht : sle P t = some m) (h0 : 0 ≤ z) (h1 : z < xs.length) (hm : Nat.blt 0 e.n = true)
    (hr : Runs P ops c os (tput T dst (.mc s k (z.toNat * m))) H sps T' H') :
    Runs P ops c (⟨dst, .indexAddr t x y, ty, pos, aft, none⟩ :: os) T H (rrs [(x, .mr s k), (y, .int kd z)] s (.store e tr M) (.mc s k (z.toNat * m)) :: sps) T' H' :=
  .ask rfl (two hx hy) hh (fun r' hr' => .inl (by simpa [D.mc] using hr')) (fun ε w S a F ha hp => by
    have h2 := ha (x, .mr s k) (by simp)
    have h3 : a.eval y = .int kd z := ha (y, .int kd z) (by simp)
    obtain ⟨G, hrow⟩ := store_row hM hp h2
    obtain ⟨A, cap, hb, hA⟩ := row_sl (by simpa using hm) hrow
    obtain ⟨_, vs, e1, e2⟩ := h2
    have hA' := hA (by omega)
    subst hA'
    dsimp only at hb e2
    refine ⟨.pointer (some ⟨blk (a.eval x), z.toNat * m, none⟩), ?_, vs, _, e1, e2, rfl⟩
    generalize blk (a.eval x) = g at hb
    simp only [execOp, hb, h3, Sem.run_bind, run_indexAt ht g 0 xs.length cap kd z h0 h1 w, Result.andThen_ok, Nat.zero_add]
    rfl) hr
theorem Runs.ldMc {t : TypeId} {x : Operand} {k m n : Nat} {z : Int} {xs : List α} {u : α} (h : ev T x = some (.mc s k (z.toNat * m))) (hh : hget H s = some (.store e tr M)) (hM : M[k]? = some xs) (hu : xs[z.toNat]? = some u) (ht : lay P t = some (some n)) (hm : m = e.n) (hn : n = e.n)
    (hr : Runs P ops c os (tput T dst (.agg (e.c u))) H sps T' H') : Runs P ops c (⟨dst, .load t x, ty, pos, aft, none⟩ :: os) T H (rrs [(x, .mc s k (z.toNat * m))] s (.store e tr M) (.agg (e.c u)) :: sps) T' H' :=
  .ask rfl (by simpa using h) hh (fun r' hr' => by rw [show (D.agg (e.c u)).nm = nms (e.c u) from rfl, e.nm] at hr'; cases hr') (fun ε w S a F ha hp => by
    subst hm; subst hn
    obtain ⟨vs, v, e1, e2, e3⟩ := ha (x, .mc s k (z.toNat * e.n)) (by simp)
    obtain ⟨vs', G, e4, _, e5, _⟩ := hp
    rw [e1] at e4
    injection e4 with e4
    subst e4
    have hrow := e5 k xs v hM e2
    dsimp only at e3
    rcases hrow with ⟨h, _, _⟩ | ⟨g, n', cap, cs, rest, hb, _, hg, h1, _, _, _, hc⟩
    · have h0 := flat_get e hu
      rw [h] at h0
      have h1 : (e.c u) = [] := by rw [← h0]; simp
      have h2 : e.n = 0 := by rw [← e.len u, h1]; rfl
      refine ⟨.agg #[], ?_, [], rfl, (fun u hu => by cases hu), by rw [h1]; trivial⟩
      simp only [execOp, e3, Instr.loadAt, Instr.sureAddr, Sem.run_bind, Sem.run_pure, Result.andThen_ok, loadVar, (lay_agg ht w).1, (lay_agg ht w).2, if_true, h2, loadCells, loadCellsFrom]
    · have hlen := all2_length hc
      have hlt := (List.getElem?_eq_some_iff.1 hu).1
      have hle := Nat.mul_le_mul_right e.n (Nat.succ_le_of_lt hlt)
      rw [flat_len] at hlen
      rw [Nat.succ_mul] at hle
      have hq : ((cs.drop (z.toNat * e.n)).take e.n).length = e.n := by simp; omega
      rw [hb] at e3
      have hld := run_loadCells_list (P := P) w ⟨g, z.toNat * e.n, none⟩ ((cs.drop (z.toNat * e.n)).take e.n) (fun j v hv => by
        have hj : j < e.n := by have := (List.getElem?_eq_some_iff.1 hv).1; omega
        rw [add_at, box_cell hg]
        rw [List.getElem?_take_of_lt hj, List.getElem?_drop] at hv
        rw [List.getElem?_append_left (List.getElem?_eq_some_iff.1 hv).1]
        exact hv)
      rw [hq] at hld
      refine ⟨.agg ((cs.drop (z.toNat * e.n)).take e.n).toArray, ?_, (cs.drop (z.toNat * e.n)).take e.n, rfl, fun u hu => h1 u (List.mem_of_mem_drop (List.mem_of_mem_take hu)), ?_⟩
      · simp only [execOp, e3, blk, Instr.loadAt, Instr.sureAddr, Sem.run_bind, Sem.run_pure, Result.andThen_ok, loadVar, (lay_agg ht w).1, (lay_agg ht w).2, if_true, hld]
      · have := all2_take (n := e.n) (all2_drop (n := z.toNat * e.n) hc)
        rwa [flat_get e hu] at this) hr
theorem row_set {te : TypeId} {w : World} {ε : Env} {S : Reg} {b : Value} {F : Reg} {xs : List α} {u : α} {j : Nat} {vs : List Value} (hp : (rowE e te xs).p ε w S b F) (hj : j < xs.length) (hS : ∀ k, S k → ¬ F k) (hv1 : ∀ v ∈ vs, v.oneCell' = true) (hvs : all2 ε w S (e.c u) vs) (hn : 0 < e.n) :
    ∃ w', (storeCells (⟨blk b, j * e.n, none⟩ : Addr) vs).run P w = .ok () w' ∧ w'.heap.size = w.heap.size ∧ w'.os = w.os ∧ w'.tape = w.tape ∧ w'.output = w.output ∧ (∀ k, ¬ F k → w'.heap[k]? = w.heap[k]?) ∧ (rowE e te (xs.set j u)).p ε w' S b F := by
  have hvl : vs.length = e.n := by rw [all2_length hvs, e.len]
  have hle := Nat.mul_le_mul_right e.n (Nat.succ_le_of_lt hj)
  rw [Nat.succ_mul] at hle
  rcases hp with ⟨e0, _, _⟩ | ⟨g, n', cap, cs, rest, hb, eF, hg, h1, hcap, hmax, hln, hcs⟩
  · have := flat_len e xs
    rw [e0] at this
    have h0 : xs.length * e.n = 0 := this.symm
    omega
  · have hlen := all2_length hcs
    rw [flat_len] at hlen
    have hst := run_storeCells_at (P := P) g (j * e.n) te vs 0 (cs ++ rest).toArray w hg (by simp; omega) hv1
    simp only [Nat.add_zero, hvl] at hst
    have hsplit : (cs ++ rest).take (j * e.n) ++ vs ++ (cs ++ rest).drop (j * e.n + e.n) = (cs.take (j * e.n) ++ vs ++ cs.drop (j * e.n + e.n)) ++ rest := by
      rw [List.take_append_of_le_length (by omega), List.drop_append_of_le_length (by omega)]
      simp [List.append_assoc]
    rw [hsplit] at hst
    have hfar : ∀ k, ¬ F k → (w.setRow g ((cs.take (j * e.n) ++ vs ++ cs.drop (j * e.n + e.n)) ++ rest).toArray).heap[k]? = w.heap[k]? := fun k hk => setRow_far _ _ _ _ (fun e' => hk (by rw [eF, e']; rfl))
    refine ⟨w.setRow g ((cs.take (j * e.n) ++ vs ++ cs.drop (j * e.n + e.n)) ++ rest).toArray, (by rw [hb]; exact hst), by simp [World.setRow], rfl, rfl, rfl, hfar, .inr ⟨g, n', cap, cs.take (j * e.n) ++ vs ++ cs.drop (j * e.n + e.n), rest, hb, eF, setRow_heap w g (cs ++ rest).toArray _ te _ hg, ?_, ?_, hmax, ?_, ?_⟩⟩
    · intro u hu
      simp only [List.mem_append] at hu
      rcases hu with (hu | hu) | hu
      · exact h1 u (List.mem_of_mem_take hu)
      · exact hv1 u hu
      · exact h1 u (List.mem_of_mem_drop hu)
    · rw [← hcap]; simp; omega
    · rw [flat_len, List.length_set, ← hln, flat_len]
    · rw [← flat_set e hj u]
      exact all2_mono (fun k hk _ => ⟨hk, hfar k (hS k hk)⟩) (all2_append (all2_append (all2_take _ hcs) hvs) (all2_drop _ hcs)) (fun _ _ => rfl)
theorem Runs.stMc {t : TypeId} {x y : Operand} {k m n : Nat} {z : Int} {xs : List α} (u : α) (h : ev T x = some (.mc s k (z.toNat * m))) (hy : ev T y = some (.agg (e.c u))) (hh : hget H s = some (.store e tr M)) (hM : M[k]? = some xs) (hz : z.toNat < xs.length) (ht : lay P t = some (some n)) (hm : m = e.n) (hn : n = e.n) (hn0 : Nat.blt 0 e.n = true)
    (hr : Runs P ops c os (tput T dst .any) ((s, .store e tr (M.set k (xs.set z.toNat u))) :: H) sps T' H') :
    Runs P ops c (⟨dst, .store t x y, ty, pos, aft, none⟩ :: os) T H (ws x (.mc s k (z.toNat * m)) y (.agg (e.c u)) s (.store e tr M) (.store e tr (M.set k (xs.set z.toNat u))) :: sps) T' H' := by
  subst hm; subst hn
  refine .cons (sp := ws x (.mc s k (z.toNat * e.n)) y (.agg (e.c u)) s (.store e tr M) (.store e tr (M.set k (xs.set z.toNat u)))) ?_ (insOk_append.2 ⟨(ev_split h).1, (ev_split hy).1⟩) ⟨hh, trivial⟩ trivial hr
  intro hdst T0 H0 hi hin _ a w ⟨ε, φ, hs⟩ Q K hK
  rw [if_pos (cell_wanted rfl _)]
  obtain ⟨hi1, hi2⟩ := insOk_append.1 hi
  obtain ⟨vs, v, e1, e2, hx⟩ := (hs.ev hi1 (ev_split h).2).1
  obtain ⟨⟨us, hus, hu1, hua⟩, _⟩ := hs.ev hi2 (ev_split hy).2
  obtain ⟨vs', G, e4, e5, e6, e7, e8⟩ := hs.h s _ hin.1
  rw [e1] at e4
  injection e4 with e4
  subst e4
  have hk : k < M.length := (List.getElem?_eq_some_iff.1 hM).1
  have hSF : ∀ i, Am.reg c H0 φ i → ¬ φ s i := fun i hi => hi.2 s (by simp [hin.1])
  obtain ⟨w', r1, r2, r3, r4, r5, r6, r7⟩ := row_set (P := P) (u := u) (e6 k xs v hM e2) hz (fun i hi hg => hSF i hi ((e8 i).2 ⟨k, hk, hg⟩)) hu1 hua (by simpa using hn0)
  have hrun : (execOp a.eval ⟨dst, .store t x y, ty, pos, aft, none⟩).run P w = .ok .skip w' := by
    have hsize : (a.eval y).cells.size = e.n := by rw [hus]; simp only [Value.cells]; rw [List.size_toArray, all2_length hua, e.len]
    have hcl : (a.eval y).cells.toList = us := by rw [hus]; simp [Value.cells]
    simp only [execOp, Instr.storeAt, hx, Instr.sureAddr, Sem.run_bind, Sem.run_pure, Result.andThen_ok, storeVar, (lay_agg ht w).2, hsize, ne_eq, not_true_eq_false, if_false, hcl, r1]
  simp only [Oper.wp, hrun, Oper.upon]
  have hS := hs.setHp (w' := w') (y := .store e tr (M.set k (xs.set z.toNat u))) hin.1 r2 r3 r4 r5 (fun i hi => r6 i (fun hg => hi ((e8 i).2 ⟨k, hk, hg⟩)))
    ⟨vs, G, e1, by rw [e5, List.length_set], (fun k' xs' v' hx' hv' => by
      by_cases hkk : k = k'
      · subst hkk
        rw [List.getElem?_set_self hk] at hx'
        injection hx' with hx'
        subst hx'
        rw [e2] at hv'
        injection hv' with hv'
        subst hv'
        exact r7
      · rw [List.getElem?_set_ne hkk] at hx'
        have hk' := (List.getElem?_eq_some_iff.1 hx').1
        exact (rowE e tr xs').mono (e6 k' xs' v' hx' hv') (fun _ _ => rfl) (fun i hi _ => ⟨hi, r6 i (fun hg => hSF i hi ((e8 i).2 ⟨k, hk, hg⟩))⟩) (fun i hi => r6 i (fun hg => e7 k k' hk hk' hkk i hg hi))), by rw [List.length_set]; exact e7, by rw [List.length_set]; exact e8⟩ (fun r' hr' => by cases hr')
  exact hK _ _ ⟨ε, φ, hS.put (d := .any) (dst_lt hdst) trivial (fun _ h => by cases h)⟩
end
end Go.Am
namespace Go.Am
open Go.RowKit
def Hp.rowX (m : Nat) (ty : TypeId) (l : List D) : Hp where
  p := rowP m ty l
  nm := nms l
  mono := fun h he hS hF => rowP_mono h he hS hF
def vcells (vs : List Value) : List D := vs.map D.lit
theorem vcells_nm (vs : List Value) : nms (vcells vs) = [] := by
  induction vs with
  | nil => rfl
  | cons v vs ih => exact ih
theorem all2_vcells {ε : Env} {w : World} {S : Reg} : ∀ {vs cs : List Value}, all2 ε w S (vcells vs) cs ↔ cs = vs
  | [], [] => by simp [vcells, all2]
  | [], _ :: _ => by simp [vcells, all2]
  | _ :: _, [] => by simp [vcells, all2]
  | v :: vs, u :: us => by
    have := @all2_vcells ε w S vs us
    simp only [vcells, List.map_cons, all2] at this ⊢
    rw [this]
    simp [D.lit]
theorem mcells_get {s n k : Nat} (h : k < n) : (mcells s n)[k]? = some (D.mr s k) := by simp [mcells, h]
theorem all2_mcells {ε : Env} {w : World} {S : Reg} {s : Nat} {vs : Array Value} (h : ε s = .agg vs) {cs : List Value} (hc : all2 ε w S (mcells s vs.size) cs) : cs = vs.toList := by
  have hl := all2_length hc
  rw [mcells_len] at hl
  apply List.ext_getElem
  · simp [hl]
  · intro k h1 h2
    obtain ⟨v, hv, hp⟩ := all2_get hc (mcells_get (s := s) (show k < vs.size by omega))
    obtain ⟨_, vs', e1, e2⟩ := hp
    rw [h] at e1
    injection e1 with e1
    subst e1
    rw [List.getElem?_eq_getElem h1] at hv
    injection hv with hv
    rw [hv]
    have := Array.getElem?_eq_some_iff.1 e2
    obtain ⟨h3, h4⟩ := this
    simp [← h4]
theorem all2_mcells' {ε : Env} {w : World} {S : Reg} {s : Nat} {vs : Array Value} (h : ε s = .agg vs) (h1 : ∀ v ∈ vs.toList, v.oneCell' = true) : all2 ε w S (mcells s vs.size) vs.toList := by
  have : ∀ (n : Nat) (us : List Value), (∀ (k : Nat) (v : Value), us[k]? = some v → v.oneCell' = true ∧ vs[k]? = some v) → us.length = n → all2 ε w S (mcells s n) us := by
    intro n
    induction n with
    | zero => intro us _ hl; have := List.eq_nil_of_length_eq_zero hl; subst this; exact trivial
    | succ n ih =>
      intro us hk hl
      have e : us = us.take n ++ [us[n]'(by omega)] := by
        conv => lhs; rw [← List.take_append_drop n us]
        rw [List.drop_eq_getElem_cons (by omega), List.drop_eq_nil_of_le (by omega)]
      have e2 : mcells s (n + 1) = mcells s n ++ [D.mr s n] := by simp [mcells, List.range_succ]
      rw [e, e2]
      refine all2_append (ih _ (fun k v hv => ?_) (by simp; omega)) ⟨?_, trivial⟩
      · have hlt := (List.getElem?_eq_some_iff.1 hv).1
        rw [List.length_take] at hlt
        rw [List.getElem?_take_of_lt (by omega)] at hv
        exact hk k v hv
      · have := hk n _ (List.getElem?_eq_getElem (by omega))
        exact ⟨this.1, vs, h, this.2⟩
  refine this _ _ (fun k v hv => ⟨h1 v (List.mem_of_getElem? hv), by simpa using hv⟩) (by simp)
theorem all2_split {ε : Env} {w : World} {S : Reg} {l m : List D} {cs : List Value} (h : all2 ε w S (l ++ m) cs) : ∃ us vs, cs = us ++ vs ∧ all2 ε w S l us ∧ all2 ε w S m vs := by
  refine ⟨cs.take l.length, cs.drop l.length, (List.take_append_drop _ _).symm, ?_, ?_⟩
  · have := all2_take l.length h
    rwa [List.take_left] at this
  · have := all2_drop l.length h
    rwa [List.drop_left] at this
section
variable {P : Program} {os : List Oper} {c : Ctx} {T T' : List (Nat × D)} {H H' : List (Nat × Hp)} {sps : List Spec}
variable {ops : Array Oper} {dst : Option Nat} {ty : TypeId} {pos : String} {aft : Array Edge}
variable {α : Type} {e : Enc α} {te tr : TypeId} {r s : Nat} {M X : List (List α)}
theorem mat_vals {ε : Env} {w : World} {S : Reg} {b : Value} {F : Reg} {vs : Array Value} (hv : ε s = .agg vs) (h : (Hp.mat e te s X).p ε w S b F) : rowP 1 te (vcells vs.toList ++ X.map (slcE e)) ε w S b F := by
  obtain ⟨vs', e1, h⟩ := h
  rw [hv] at e1
  injection e1 with e1
  subst e1
  rcases h with ⟨h0, h1, h2⟩ | ⟨g, n, cap, cs, rest, h1, h2, h3, h4, h5, h8, h6, h7⟩
  · rcases List.append_eq_nil_iff.1 h0 with ⟨h3, h4⟩
    have : vs.size = 0 := by have := congrArg List.length h3; rwa [mcells_len] at this
    refine .inl ⟨?_, h1, h2⟩
    have : vs.toList = [] := List.eq_nil_of_length_eq_zero (by simpa using this)
    rw [this, h4]; rfl
  · obtain ⟨us, xs, rfl, hu, hx⟩ := all2_split h7
    have := all2_mcells hv hu
    subst this
    refine .inr ⟨g, n, cap, _, rest, h1, h2, h3, h4, h5, h8, ?_, all2_append (all2_vcells.2 rfl) hx⟩
    rw [← h6]
    simp [vcells, mcells_len]
theorem vals_mat {ε : Env} {w : World} {S : Reg} {b : Value} {F : Reg} {vs : Array Value} (hv : ε s = .agg vs) (h : rowP 1 te (vcells vs.toList ++ X.map (slcE e)) ε w S b F) : (Hp.mat e te s X).p ε w S b F := by
  refine ⟨vs, hv, ?_⟩
  rcases h with ⟨h0, h1, h2⟩ | ⟨g, n, cap, cs, rest, h1, h2, h3, h4, h5, h8, h6, h7⟩
  · rcases List.append_eq_nil_iff.1 h0 with ⟨h3, h4⟩
    have : vs.size = 0 := by have := congrArg List.length h3; simpa [vcells] using this
    refine .inl ⟨?_, h1, h2⟩
    rw [this, h4]; rfl
  · obtain ⟨us, xs, rfl, hu, hx⟩ := all2_split h7
    have := all2_vcells.1 hu
    subst this
    refine .inr ⟨g, n, cap, _, rest, h1, h2, h3, h4, h5, h8, ?_, all2_append (all2_mcells' hv (fun v hv => h4 v (by simp [hv]))) hx⟩
    rw [← h6]
    simp [vcells, mcells_len]
theorem hget_kill {K : List Nat} {q : Nat} : hget (K.map fun k => (k, Hp.dead)) q = if q ∈ K then some .dead else none := by
  induction K with
  | nil => rfl
  | cons k K ih =>
    simp only [List.map_cons, hget]
    cases hb : Nat.beq q k with
    | true => rw [Nat.eq_of_beq_eq_true hb]; simp
    | false =>
      have hne : q ≠ k := fun e => by subst e; simp at hb
      dsimp only
      rw [ih]
      simp [hne]
theorem SatE.gather {T0 : Nat → Option D} {H0 : Nat → Option Hp} {a : Act} {w : World} {ε : Env} {φ : Nat → Reg} (hs : SatE c T0 H0 a w ε φ) (K : List Nat) (hK : ∀ q ∈ K, H0 q ≠ none) {s2 : Nat} (hs2 : H0 s2 = none) (hr : H0 r ≠ none) (hrK : r ∉ K)
    (vs : Array Value) (G : Nat → Reg) (hsz : vs.size = M.length)
    (hrows : ∀ k xs v, M[k]? = some xs → vs[k]? = some v → (rowE e tr xs).p ε w (Am.reg c H0 φ) v (G k))
    (hdj : ∀ k k', k < M.length → k' < M.length → k ≠ k' → ∀ i, G k i → ¬ G k' i)
    (hG : ∀ k, k < M.length → ∀ i, G k i → ∃ q ∈ K, φ q i)
    (hout : rowP 1 te (vcells vs.toList ++ X.map (slcE e)) ε w (Am.reg c H0 φ) (ε r) (φ r)) :
    Sat c T0 (updH H0 ((r, .mat e te s2 X) :: (s2, .store e tr M) :: K.map fun k => (k, Hp.dead))) a w := by
  have hr2 : r ≠ s2 := fun e => hr (e ▸ hs2)
  have hK2 : ∀ q ∈ K, q ≠ s2 := fun q hq e => hK q hq (e ▸ hs2)
  have hL : ∀ q, hget ((r, Hp.mat e te s2 X) :: (s2, Hp.store e tr M) :: K.map fun k => (k, Hp.dead)) q = if q = r then some (Hp.mat e te s2 X) else if q = s2 then some (Hp.store e tr M) else if q ∈ K then some .dead else none := by
    intro q
    simp only [hget]
    cases h1 : Nat.beq q r with
    | true => rw [if_pos (Nat.eq_of_beq_eq_true h1)]
    | false =>
      rw [if_neg (fun e => by subst e; simp at h1)]
      cases h2 : Nat.beq q s2 with
      | true => rw [if_pos (Nat.eq_of_beq_eq_true h2)]
      | false => rw [if_neg (fun e => by subst e; simp at h2)]; exact hget_kill
  let φ' : Nat → Reg := fun q => if q = s2 then (fun i => ∃ k, k < M.length ∧ G k i) else if q ∈ K then noBlocks else φ q
  have f1 : φ' s2 = fun i => ∃ k, k < M.length ∧ G k i := by simp [φ']
  have f2 : ∀ q ∈ K, φ' q = noBlocks := fun q hq => by simp [φ', hK2 q hq, hq]
  have f3 : ∀ q, q ≠ s2 → q ∉ K → φ' q = φ q := fun q h1 h2 => by simp [φ', h1, h2]
  refine ⟨upd ε s2 (.agg vs), φ', (hs.regroup (fun q hq => upd_ne _ _ (show q ≠ s2 from fun e => hq (e ▸ hs2))) (fun q hq => ?_) (fun q k hq hk => ?_) (fun q q' hq hq' hne k hk => ?_) (fun q x hq => ?_) (fun q x hq q' hq' => ?_)).1⟩
  · rw [hL] at hq
    refine f3 q (fun e => ?_) (fun h => ?_)
    · subst e; simp [Ne.symm hr2] at hq
    · by_cases h1 : q = r
      · subst h1; exact hrK h
      · simp [h1, hK2 q h, h] at hq
  · by_cases h2 : q = s2
    · subst h2
      rw [f1] at hk
      obtain ⟨j, hj, hg⟩ := hk
      obtain ⟨q', h3, h4⟩ := hG j hj k hg
      refine ⟨q', hK q' h3, ?_, h4⟩
      rw [hL, if_neg (show q' ≠ r from fun e => hrK (e ▸ h3)), if_neg (hK2 q' h3), if_pos h3]; simp
    · by_cases h3 : q ∈ K
      · rw [f2 q h3] at hk; exact hk.elim
      · rw [f3 q h2 h3] at hk
        have : q = r := by
          rw [hL] at hq
          by_cases h1 : q = r
          · exact h1
          · simp [h1, h2, h3] at hq
        subst this
        exact ⟨q, hr, by rw [hL, if_pos rfl]; simp, hk⟩
  · have cls : ∀ q, hget ((r, Hp.mat e te s2 X) :: (s2, Hp.store e tr M) :: K.map fun k => (k, Hp.dead)) q ≠ none → q = r ∨ q = s2 ∨ q ∈ K := by
      intro q h
      rw [hL] at h
      by_cases h1 : q = r
      · exact .inl h1
      · by_cases h2 : q = s2
        · exact .inr (.inl h2)
        · by_cases h3 : q ∈ K
          · exact .inr (.inr h3)
          · simp [h1, h2, h3] at h
    have notG : ∀ j, j < M.length → ∀ i, G j i → ¬ φ r i := fun j hj i hg hf => by
      obtain ⟨q', h3, h4⟩ := hG j hj i hg
      exact hs.dj q' r (hK q' h3) hr (fun e => hrK (e ▸ h3)) i h4 hf
    rcases cls q hq with rfl | rfl | h
    · rw [f3 q hr2 hrK] at hk
      rcases cls q' hq' with rfl | rfl | h'
      · exact absurd rfl hne
      · rw [f1]; rintro ⟨j, hj, hg⟩; exact notG j hj k hg hk
      · rw [f2 q' h']; exact fun h => h
    · rw [f1] at hk
      obtain ⟨j, hj, hg⟩ := hk
      rcases cls q' hq' with rfl | rfl | h'
      · rw [f3 q' hr2 hrK]; exact notG j hj k hg
      · exact absurd rfl hne
      · rw [f2 q' h']; exact fun h => h
    · rw [f2 q h] at hk; exact hk.elim
  · have hS : ∀ k, Am.reg c H0 φ k → Am.reg c (updH H0 ((r, Hp.mat e te s2 X) :: (s2, Hp.store e tr M) :: K.map fun k => (k, Hp.dead))) φ' k := by
      intro k hk
      refine ⟨hk.1, fun q' hq' hf => ?_⟩
      by_cases h2 : q' = s2
      · subst h2
        rw [f1] at hf
        obtain ⟨j, hj, hg⟩ := hf
        obtain ⟨q2, h3, h4⟩ := hG j hj k hg
        exact hk.2 q2 (hK q2 h3) h4
      · by_cases h3 : q' ∈ K
        · rw [f2 q' h3] at hf; exact hf
        · rw [f3 q' h2 h3] at hf
          refine hk.2 q' (fun h0 => hq' ?_) hf
          have h1 : q' ≠ r := fun e => hr (e ▸ h0)
          simp only [updH]
          rw [hL, if_neg h1, if_neg h2, if_neg h3]
          exact h0
    have hS' : ∀ k, Am.reg c H0 φ k → k < w.heap.size → Am.reg c (updH H0 ((r, Hp.mat e te s2 X) :: (s2, Hp.store e tr M) :: K.map fun k => (k, Hp.dead))) φ' k ∧ w.heap[k]? = w.heap[k]? := fun k hk _ => ⟨hS k hk, rfl⟩
    rw [hL] at hq
    by_cases h1 : q = r
    · subst h1
      rw [if_pos rfl] at hq
      injection hq with hq
      subst hq
      rw [upd_ne _ _ hr2, f3 q hr2 hrK]
      refine vals_mat (upd_same _ _ _) (rowP_mono hout (fun q' hq' => ?_) hS' (fun _ _ => rfl))
      rw [nms_append (vcells_nm _) (nms_slices e X)] at hq'
      cases hq'
    · rw [if_neg h1] at hq
      by_cases h2 : q = s2
      · subst h2
        rw [if_pos rfl] at hq
        injection hq with hq
        subst hq
        rw [f1, upd_same]
        exact ⟨vs, G, rfl, hsz, fun k xs v hx hv => (rowE e tr xs).mono (hrows k xs v hx hv) (fun q' hq' => by cases hq') hS' (fun _ _ => rfl), hdj, fun i => Iff.rfl⟩
      · rw [if_neg h2] at hq
        by_cases h3 : q ∈ K
        · rw [if_pos h3] at hq
          injection hq with hq
          subst hq
          rw [f2 q h3]; rfl
        · rw [if_neg h3] at hq; cases hq
  · rw [hL] at hq
    by_cases h1 : q = r
    · rw [if_pos h1] at hq
      injection hq with hq
      subst hq
      have : q' = s2 := by simpa [Hp.mat] using hq'
      subst this
      right
      rw [hL, if_neg (Ne.symm hr2), if_pos rfl]; simp
    · rw [if_neg h1] at hq
      by_cases h2 : q = s2
      · rw [if_pos h2] at hq
        injection hq with hq
        subst hq; cases hq'
      · rw [if_neg h2] at hq
        by_cases h3 : q ∈ K
        · rw [if_pos h3] at hq
          injection hq with hq
          subst hq; cases hq'
        · rw [if_neg h3] at hq; cases hq
theorem Runs.blX {t te : TypeId} {r : Nat} {parts : List (Nat × Operand)} {m bt n : Nat} {z : List D} (l : List D) (q : List (Nat × Operand × D × List D)) (hm : mkf P t = some (te, m, bt, z)) (hs : Nat.ble (n * m) 16777216 = true) (hn0 : Nat.blt 0 n = true) (hq : partsOk (elp m 0 n) (n * m) parts q) (he : ∀ x ∈ qs q, ev T x.1 = some x.2)
    (hle : over (List.replicate n z).flatten q = l) (hln : l.length = n * m) (hnq : ∀ r' ∈ nms l, ∃ x ∈ qs q, r' ∈ x.2.nm) (hf : hget H r = none)
    (hr : Runs P ops c os ((r, .own r) :: T) ((r, Hp.rowX m te l) :: H) sps T' H') :
    Runs P ops c (⟨some r, .buildSlice t n parts.toArray, ty, pos, aft, none⟩ :: os) T H (rws (qs q) r (Hp.rowX m te l) :: sps) T' H' := by
  refine .cons (sp := rws (qs q) r (Hp.rowX m te l)) ?_ (needs_ok he) trivial ⟨hf, trivial⟩ hr
  intro hd T0 H0 hi _ hnew a w ⟨ε, φ, hs'⟩ Q K hK
  rw [if_pos (cell_wanted rfl _)]
  have hx : ∀ x ∈ qs q, insOk T0 (need x.1 x.2) := insOk_needs hi
  obtain ⟨i, v, hu, hinf, hzv, hsz, _, ez, hv1, hvs, hm0⟩ := mkf_spec hm
  obtain ⟨hpl, hg⟩ := partsOk_get hq
  have hn1 : 0 < n := by simpa using hn0
  have hcs := madeCells_rep hvs hm0 n
  have hz0 : all2 ε w (reg c H0 φ) (List.replicate n z).flatten (madeCells v.cells (n * m)).toList := by rw [hcs, ez]; exact all2_flatten (all2_cst _ _ _ _) _
  have hzl : (List.replicate n z).flatten.length = n * m := by
    have h1 : v.cells.toList.length = m := by rw [Array.length_toList, hvs]
    rw [len_flatten, ez, List.length_map, h1]
  obtain ⟨cs', hfl, hA, hO⟩ := fill_over (a := a) (place := fun i => some (i * m, m)) hpl (fun k u x hu' hx => by
    have := hg k u x hu' hx
    have h2 := elp_get m 0 n u.1 _ this.2.1
    simp only [Prod.mk.injEq, Nat.zero_add] at h2
    exact ⟨this.1, by rw [h2.1, h2.2], this.2.2.1, by rw [hzl]; exact this.2.2.2⟩) hz0 (by
      intro u hu'
      rw [hcs] at hu'
      simp only [List.mem_flatten, List.mem_replicate] at hu'
      obtain ⟨l', ⟨_, rfl⟩, hu'⟩ := hu'
      exact hv1 u hu') (fun x hxm => (hs'.ev (hx (x.2.1, x.2.2.1) (List.mem_map.2 ⟨x, hxm, rfl⟩)) (ev_split (he (x.2.1, x.2.2.1) (List.mem_map.2 ⟨x, hxm, rfl⟩))).2).1)
  have live : ∀ r' ∈ nms l, H0 r' ≠ none := fun r' hr' => by
    obtain ⟨x, hxm, hr2⟩ := hnq r' hr'
    exact (hs'.ev (hx x hxm) (ev_split (he x hxm)).2).2 r' hr2
  have hlim : ¬ (n * m > 2 ^ 24) := by have := Nat.le_of_ble_eq_true hs; omega
  have hf' : Instr.fill (fun i => some (i * m, m)) (madeCells v.cells (n * m)) (parts.map fun x => (x.1, a.eval x.2)) = some cs' := hfl
  have h0 : ¬ (n * m = 0) := by
    intro h
    rcases Nat.mul_eq_zero.1 h with h | h <;> omega
  have hrun : (execOp a.eval ⟨some r, .buildSlice t n parts.toArray, ty, pos, aft, none⟩).run P w = .ok (.value (.slice (some ⟨w.heap.size, 0, none⟩) n n)) (w.alloc (.cells cs' te)) := by
    simp only [execOp, Instr.buildSlice, run_underlying hu, Sem.run_bind, Result.andThen_ok, sizeOf, typeInfo, run_program, hinf, Sem.run_pure, hsz]
    simp [hlim, h0, zeroValue, typeInfo, hinf, hzv, newRow]
    rw [show (Array.map (fun x => v.cells[x % v.cells.size]!) (Array.range (n * m))) = madeCells v.cells (n * m) from rfl, hf']
    simp
  simp only [Oper.wp, hrun, Oper.upon]
  rw [hle] at hA
  have hlen := all2_length hA
  have hmx : n ≤ maxLen := by
    have h1 := Nat.le_of_ble_eq_true hs
    have h2 : n * 1 ≤ n * m := Nat.mul_le_mul_left _ hm0
    unfold maxLen; omega
  have hA' : all2 (upd ε r (.slice (some ⟨w.heap.size, 0, none⟩) n n)) (w.alloc (.cells cs' te)) (Am.reg c (updH H0 [(r, Hp.rowX m te l)]) (upd φ r (only w.heap.size))) (l) cs'.toList := by
    refine all2_mono (fun k hk hlt => ⟨⟨hk.1, fun r' hr' => ?_⟩, Below.heap_alloc _ _ _ hlt⟩) hA (fun r' hr' => upd_ne _ _ (fun e' => live r' hr' (e' ▸ hnew.1)))
    rw [updH_one] at hr'
    by_cases e' : r' = r
    · subst e'; rw [upd_same]; intro hf'; simp only [only] at hf'; omega
    · rw [upd_ne _ _ e'] at hr' ⊢; exact hk.2 r' hr'
  have hN := hs'.newHp (x := Hp.rowX m te l) (b := .slice (some ⟨w.heap.size, 0, none⟩) n n) (F := only w.heap.size) (w' := w.alloc (.cells cs' te)) (r := r) hnew.1 ((Below.refl _ _).alloc (Nat.le_refl _) _)
    (fun k hk => by simp only [only] at hk; subst hk; simp)
    (.inr ⟨w.heap.size, n, n, cs'.toList, [], rfl, rfl, by rw [alloc_at, List.append_nil], hO, by rw [List.append_nil, hlen, hln], hmx, hln, hA'⟩) live
  exact hK _ _ ⟨_, _, hN.put (dst := some r) (d := .own r) (dst_lt hd) ⟨(upd_same _ _ _).symm, rfl⟩ (by simp [D.own, updH_one, upd_same])⟩
end
end Go.Am
namespace Go.Am
open Go.RowKit
theorem SatE.appE {P : Program} {c : Ctx} {T : Nat → Option D} {H : Nat → Option Hp} {a : Act} {w : World} {ε : Env} {φ : Nat → Reg} (hs : SatE c T H a w ε φ) {t ty e : TypeId} {m bt : Nat} {z : List D} (hm : mkf P t = some (e, m, bt, z))
    {r1 r n1 n2 : Nat} {l1 l2 l : List D} {hl1 : nms l1 = []} {hl : nms l = []} (hr1 : H r1 = some (.row m e l1 hl1)) (hr : H r = none) (hn1 : l1.length = n1 * m) (hn2 : l2.length = n2 * m) (hl2 : nms l2 = []) (he : l1 ++ l2 = l)
    {A : Option Addr} {cap2 : Nat} {vs : List Value} (hA : n2 = 0 ∨ ∃ b o, A = some ⟨b, o, none⟩ ∧ ∀ j u, vs[j]? = some u → w.cell? ⟨b, o + j, none⟩ = some u) (hv1 : ∀ u ∈ vs, u.oneCell' = true) (hv : all2 ε w (reg c H φ) l2 vs)
    (hb : (n1 + n2) * bt ≤ 140737488355328) (hmax : n1 + n2 ≤ 9223372036854775807) :
    ∃ v' w' ε' φ', (Builtin.append_ #[t, t] ty #[ε r1, .slice A n2 cap2]).run P w = .ok v' w' ∧ SatE c T (updH H [(r1, .dead), (r, .row m e l hl)]) a w' ε' φ' ∧ ε' r = v' ∧ v'.oneCell' = true ∧ ∀ q, q ≠ r → ε' q = ε q := by
  obtain ⟨i, zv, hu, hinf, hzv, hsz, hbz, ez, hzv1, hzs, hm0⟩ := mkf_spec hm
  have hvl : vs.length = n2 * m := by rw [all2_length hv, hn2]
  have hlen : l.length = (n1 + n2) * m := by rw [← he, List.length_append, hn1, hn2, Nat.add_mul]
  have lo := hs.lo r1 (by simp [hr1])
  subst he
  -- a new block
  have grow : ∀ (xs : List Value) (cap' : Nat) (rest : List Value), all2 ε w (reg c H φ) l1 xs → (∀ u ∈ xs, u.oneCell' = true) → ((xs ++ vs) ++ rest).length = cap' * m → cap' ≤ maxLen →
      SatE c T (updH H [(r1, .dead), (r, .row m e (l1 ++ l2) hl)]) a (w.drew.alloc (.cells ((xs ++ vs) ++ rest).toArray e)) (upd ε r (.slice (some ⟨w.heap.size, 0, none⟩) (n1 + n2) cap')) (upd (upd φ r1 noBlocks) r (only w.heap.size)) := by
    intro xs cap' rest hxs h1 hcl hcm
    have hold : ∀ k, k < w.heap.size → (w.drew.alloc (.cells ((xs ++ vs) ++ rest).toArray e)).heap[k]? = w.heap[k]? := fun k hk => Below.heap_alloc w.drew _ k hk
    refine hs.trade hr1 hr (by simp) rfl rfl rfl (fun k hk _ => hold k hk) (fun k hk => by simp only [only] at hk; subst hk; exact ⟨.inr (Nat.le_refl _), by simp⟩)
      (.inr ⟨w.heap.size, n1 + n2, cap', xs ++ vs, rest, rfl, rfl, alloc_at w.drew _, (fun u hu => (List.mem_append.1 hu).elim (h1 u) (hv1 u)), hcl, hcm, hlen, ?_⟩) rfl
    refine all2_mono (fun k hk hlt => ⟨⟨hk.1, fun r' hr' hf => ?_⟩, hold k hlt⟩) (all2_append hxs hv) (by rw [nms_append hl1 hl2]; intro r' hr'; cases hr')
    rw [updH_two] at hr'
    by_cases e1 : r' = r1
    · subst e1
      have hne : r' ≠ r := fun e => by subst e; rw [hr] at hr1; cases hr1
      rw [upd_ne _ _ hne, upd_same] at hf; exact hf
    · by_cases e2 : r' = r
      · subst e2; rw [upd_same] at hf; simp only [only] at hf; omega
      · rw [upd_ne _ _ e2, upd_ne _ _ e1] at hf
        rw [upd_ne _ _ e1, upd_ne _ _ e2] at hr'
        exact hk.2 r' hr' hf
  have hcapge : ∀ old, n1 + n2 ≤ grownCap w (n1 + n2) old e := fun old => grownCap_ge w _ old e
  have hcapmax : ∀ old, grownCap w (n1 + n2) old e ≤ maxLen := fun old => grownCap_le_maxLen w _ old e (by unfold maxLen; omega)
  have hrestlen : ∀ old, (Builtin.zeroCells zv.cells (grownCap w (n1 + n2) old e - (n1 + n2))).toList.length = (grownCap w (n1 + n2) old e - (n1 + n2)) * m := fun old => by rw [Array.length_toList, size_zeroCells, hzs]
  rcases hs.h r1 _ hr1 with ⟨e0, eb, eF⟩ | ⟨g, n', cap, cs, rest, eb, eF, hg, h1, hcap, hmaxc, hln, hcs⟩
  · -- nil
    subst e0
    have hn0 : n1 = 0 := by
      rcases Nat.mul_eq_zero.1 (show n1 * m = 0 from hn1.symm) with h | h <;> omega
    subst hn0
    by_cases h0 : n2 = 0
    · subst h0
      have hv0 : vs = [] := List.eq_nil_of_length_eq_zero (by simpa using hvl)
      have hl0 : l2 = [] := List.eq_nil_of_length_eq_zero (by simpa using hn2)
      subst hv0; subst hl0
      refine ⟨.slice none 0 0, w, upd ε r (.slice none 0 0), upd (upd φ r1 noBlocks) r noBlocks, ?_, ?_, upd_same _ _ _, rfl, fun q hq => upd_ne _ _ hq⟩
      · rw [eb]
        cases A <;> simp [Builtin.append_, run_underlying hu, sizeOf, typeInfo, hinf, Builtin.lenOf, Builtin.firstCells, loadCells, loadCellsFrom]
      · exact hs.trade hr1 hr (Nat.le_refl _) rfl rfl rfl (fun _ _ _ => rfl) (fun k hk => hk.elim) (.inl ⟨rfl, rfl, rfl⟩) rfl
    · obtain ⟨b, o, eA, hcell⟩ := hA.resolve_left h0
      subst eA
      have hr' := run_append_nil (P := P) w t ty e i zv hu hinf hzv ⟨b, o, none⟩ n2 cap2 vs (by rw [hvl, hsz]) (fun j u hj => by rw [add_at]; exact hcell j u hj) (by omega) (by omega) (by rw [hbz]; simp only [Nat.zero_add] at hb; omega)
      rw [eb]
      have hG := grow [] (grownCap w (0 + n2) 0 e) (Builtin.zeroCells zv.cells (grownCap w (0 + n2) 0 e - (0 + n2))).toList trivial (fun u hu => by cases hu) (by
        rw [List.length_append, List.nil_append, hvl, hrestlen, ← Nat.add_mul]
        have := hcapge 0
        congr 1; omega) (hcapmax 0)
      simp only [Nat.zero_add, List.nil_append] at hG
      refine ⟨_, _, upd ε r (.slice (some ⟨w.heap.size, 0, none⟩) n2 (grownCap w n2 0 e)), upd (upd φ r1 noBlocks) r (only w.heap.size), hr', ?_, upd_same _ _ _, rfl, fun q hq => upd_ne _ _ hq⟩
      have ecell : (vs ++ (Builtin.zeroCells zv.cells (grownCap w n2 0 e - n2)).toList).toArray = vs.toArray ++ Builtin.zeroCells zv.cells (grownCap w n2 0 e - n2) := by
        apply Array.ext'; simp
      rw [ecell] at hG
      exact hG
  · have hnn : n' = n1 := Nat.eq_of_mul_eq_mul_right hm0 (hln.symm.trans hn1)
    subst hnn
    have hcsl : cs.length = n' * m := by rw [all2_length hcs, hn1]
    rw [eb]
    have hAsome : ∃ ad, ∀ (j : Nat) u, vs[j]? = some u → w.cell? (Addr.add ad j) = some u := by
      rcases hA with h0 | ⟨b, o, eA, hcell⟩
      · subst h0
        have hv0 : vs = [] := List.eq_nil_of_length_eq_zero (by simpa using hvl)
        exact ⟨⟨0, 0, none⟩, fun j u hj => by subst hv0; simp at hj⟩
      · exact ⟨⟨b, o, none⟩, fun j u hj => by rw [add_at]; exact hcell j u hj⟩
    by_cases hroom : n' + n2 ≤ cap
    · -- there is room
      have hsetrow : ∀ k, k ≠ g → (w.setRow g (cs ++ vs ++ (cs ++ rest).drop (n' * m + vs.length)).toArray).heap[k]? = w.heap[k]? := fun k hk => setRow_far _ _ _ _ hk
      have hrun : (Builtin.append_ #[t, t] ty #[.slice (some ⟨g, 0, none⟩) n' cap, .slice A n2 cap2]).run P w = .ok (.slice (some ⟨g, 0, none⟩) (n' + n2) cap) (w.setRow g (cs ++ vs ++ (cs ++ rest).drop (n' * m + vs.length)).toArray) := by
        have htk : (cs ++ rest).take (n' * m) = cs := by rw [← hcsl]; exact List.take_left
        rcases hA with h0 | ⟨b, o, eA, hcell⟩
        · subst h0
          have hv0 : vs = [] := List.eq_nil_of_length_eq_zero (by simpa using hvl)
          subst hv0
          have hself : w.setRow g (cs ++ [] ++ (cs ++ rest).drop (n' * m + ([] : List Value).length)).toArray = w := by
            have : (cs ++ [] ++ (cs ++ rest).drop (n' * m + ([] : List Value).length)) = cs ++ rest := by
              rw [List.append_nil, List.length_nil, Nat.add_zero]
              conv => rhs; rw [← List.take_append_drop (n' * m) (cs ++ rest), htk]
            rw [this]
            exact setRow_self w g _ e (0, 0) hg
          rw [hself]
          have hroom' : n' ≤ cap := hroom
          cases A with
          | none => simp [Builtin.append_, run_underlying hu, sizeOf, typeInfo, hinf, Builtin.lenOf, Builtin.firstCells, hroom', storeCells]
          | some ad => simp [Builtin.append_, run_underlying hu, sizeOf, typeInfo, hinf, Builtin.lenOf, Builtin.firstCells, hroom', storeCells, loadCells, loadCellsFrom]
        · subst eA
          have hr' := run_append_room (P := P) w t ty e i hu hinf g n' cap (cs ++ rest).toArray hg ⟨b, o, none⟩ n2 cap2 vs (by rw [hvl, hsz]) (fun j u hj => by rw [add_at]; exact hcell j u hj) hv1 hroom (by
            rw [hsz, hvl, ← Nat.add_mul, List.size_toArray, hcap]; exact Nat.mul_le_mul_right _ hroom)
          simp only [hsz, htk] at hr'
          exact hr'
      refine ⟨_, _, upd ε r (.slice (some ⟨g, 0, none⟩) (n' + n2) cap), upd (upd φ r1 noBlocks) r (only g), hrun, ?_, upd_same _ _ _, rfl, fun q hq => upd_ne _ _ hq⟩
      have hgl : g < w.heap.size := (lo g (by rw [eF]; rfl)).2
      refine hs.trade hr1 hr (by simp [World.setRow]) rfl rfl rfl (fun k _ hk => hsetrow k (fun e' => hk (by rw [eF, e']; rfl))) (fun k hk => by simp only [only] at hk; subst hk; exact ⟨.inl (by rw [eF]; rfl), by simpa [World.setRow] using hgl⟩)
        (.inr ⟨g, n' + n2, cap, cs ++ vs, (cs ++ rest).drop (n' * m + vs.length), rfl, rfl, setRow_heap w g (cs ++ rest).toArray _ e _ hg, (fun u hu => (List.mem_append.1 hu).elim (h1 u) (hv1 u)), ?_, hmaxc, hlen, ?_⟩) rfl
      · rw [List.length_append, List.length_append, List.length_drop, hcap, hcsl, hvl]
        have : (n' + n2) * m ≤ cap * m := Nat.mul_le_mul_right _ hroom
        rw [Nat.add_mul] at this
        omega
      · refine all2_mono (fun k hk hlt => ⟨⟨hk.1, fun r' hr' hf => ?_⟩, hsetrow k (fun e' => hk.2 r1 (by simp [hr1]) (by rw [eF, e']; rfl))⟩) (all2_append hcs hv) (by rw [nms_append hl1 hl2]; intro r' hr'; cases hr')
        rw [updH_two] at hr'
        by_cases e1 : r' = r1
        · subst e1
          have hne : r' ≠ r := fun e => by subst e; rw [hr] at hr1; cases hr1
          rw [upd_ne _ _ hne, upd_same] at hf; exact hf
        · by_cases e2 : r' = r
          · subst e2; rw [upd_same] at hf; exact hk.2 r1 (by simp [hr1]) (by rw [eF]; exact hf)
          · rw [upd_ne _ _ e2, upd_ne _ _ e1] at hf
            rw [upd_ne _ _ e1, upd_ne _ _ e2] at hr'
            exact hk.2 r' hr' hf
    · -- a new array
      have h0 : n2 ≠ 0 := by
        intro h0
        subst h0
        have hle : n' * m ≤ cap * m := by rw [← hcap, List.length_append, hcsl]; omega
        have := Nat.le_of_mul_le_mul_right hle hm0
        omega
      obtain ⟨b, o, eA, hcell⟩ := hA.resolve_left h0
      subst eA
      have hr' := run_append_grow (P := P) w t ty e i zv hu hinf hzv ⟨g, 0, none⟩ n' cap cs (by rw [hcsl, hsz]) (fun j u hj => by
          rw [add_at, box_cell hg, Nat.zero_add]
          rw [List.getElem?_append_left (List.getElem?_eq_some_iff.1 hj).1]; exact hj) ⟨b, o, none⟩ n2 cap2 vs (by rw [hvl, hsz]) (fun j u hj => by rw [add_at]; exact hcell j u hj) (by omega) (by omega) (by rw [hbz]; exact growslice_fits (by omega) hb)
      have hG := grow cs (grownCap w (n' + n2) cap e) (Builtin.zeroCells zv.cells (grownCap w (n' + n2) cap e - (n' + n2))).toList hcs h1 (by
        rw [List.length_append, List.length_append, hvl, hcsl, hrestlen, ← Nat.add_mul, ← Nat.add_mul]
        have := hcapge cap
        congr 1; omega) (hcapmax cap)
      refine ⟨_, _, upd ε r (.slice (some ⟨w.heap.size, 0, none⟩) (n' + n2) (grownCap w (n' + n2) cap e)), upd (upd φ r1 noBlocks) r (only w.heap.size), hr', ?_, upd_same _ _ _, rfl, fun q hq => upd_ne _ _ hq⟩
      have ecell : ((cs ++ vs) ++ (Builtin.zeroCells zv.cells (grownCap w (n' + n2) cap e - (n' + n2))).toList).toArray = cs.toArray ++ vs.toArray ++ Builtin.zeroCells zv.cells (grownCap w (n' + n2) cap e - (n' + n2)) := by
        apply Array.ext'; simp
      rw [ecell] at hG
      exact hG
theorem updH_over {H : Nat → Option Hp} {r : Nat} {y : Hp} {L : List (Nat × Hp)} (h : hget L r ≠ none) : updH (updH H [(r, y)]) L = updH H L := by
  funext q
  simp only [updH]
  cases hq : hget L q with
  | some _ => rfl
  | none =>
    simp only [hget]
    cases hb : Nat.beq q r with
    | true => rw [Nat.eq_of_beq_eq_true hb] at hq; exact absurd hq h
    | false => rfl
theorem flat_slice {α : Type} (e : Enc α) : ∀ X : List (List α), flat (Enc.slice e) X = X.map (slcE e)
  | [] => rfl
  | x :: X => by
    have ih := flat_slice e X
    show (x :: X).flatMap (fun l => [slcE e l]) = _
    rw [List.flatMap_cons, List.map_cons]
    show [slcE e x] ++ flat (Enc.slice e) X = _
    rw [ih]; rfl
theorem vcells_len (vs : List Value) : (vcells vs).length = vs.length := by simp [vcells]
section
variable {P : Program} {os : List Oper} {c : Ctx} {T T' : List (Nat × D)} {H H' : List (Nat × Hp)} {sps : List Spec}
variable {ops : Array Oper} {dst : Option Nat} {ty : TypeId} {pos : String} {aft : Array Edge}
variable {α : Type} {e : Enc α} {te tr : TypeId} {r s : Nat} {M X : List (List α)}
theorem Ok.nilM {α : Type} {x : Code} {Q : Exit → Act → World → Prop} (e : Enc α) (t r s : Nat) (te tr : TypeId) (ht : tget T t = some .nil) (hf : hget H r = none) (hf2 : hget H s = none) (hne : Nat.beq r s = false)
    (h : Ok P c ((t, .own r) :: T) ((r, .mat e te s []) :: (s, .store e tr []) :: H) x Q) : Ok P c T H x Q := by
  intro a w ⟨ε, φ, hs⟩
  have hne' : r ≠ s := fun e => by subst e; simp at hne
  have hN := hs.newHp (x := .store e tr []) (b := .agg #[]) (F := noBlocks) (r := s) hf2 (Below.refl _ _) (fun k hk => hk.elim)
    ⟨#[], fun _ => noBlocks, rfl, rfl, (fun k xs v hx => by simp at hx), (fun k k' hk => by simp at hk), fun i => ⟨fun h => h.elim, fun ⟨k, hk, _⟩ => by simp at hk⟩⟩ (fun r' hr' => by cases hr')
  have hr0 : updH (hget H) [(s, Hp.store e tr [])] r = none := by rw [updH_one, upd_ne _ _ hne']; exact hf
  have hN2 := hN.newHp (x := .mat e te s []) (b := .slice none 0 0) (F := noBlocks) (r := r) hr0 (Below.refl _ _) (fun k hk => hk.elim)
    ⟨#[], by rw [upd_ne _ _ (Ne.symm hne'), upd_same], .inl ⟨rfl, rfl, rfl⟩⟩ (fun r' hr' => by
      have : r' = s := by simpa [Hp.mat] using hr'
      subst this; rw [updH_one, upd_same]; simp)
  have hv : a.tmps.getD t undef = .slice none 0 0 := hs.t t _ ht
  refine h a w ⟨_, _, put_with (Sat_ext' hN2 (fun r' => ?_)) ⟨by rw [hv, upd_same], by rw [hv]; rfl⟩ (fun r' hr' => ?_)⟩
  · rw [hget_append, hget_append]; rfl
  · have : r' = r := by simpa [D.own] using hr'
    subst this; simp [hget]
where
  Sat_ext' {c : Ctx} {T : Nat → Option D} {H H' : Nat → Option Hp} {a : Act} {w : World} {ε : Env} {φ : Nat → Reg} (h : SatE c T H a w ε φ) (hH : ∀ r, H r = H' r) : SatE c T H' a w ε φ := by
    have : H = H' := funext hH
    subst this; exact h
theorem row_given {e : Enc α} {te : TypeId} {xs : List α} {ε : Env} {w : World} {S S' : Reg} {b : Value} {F : Reg} (h : (rowE e te xs).p ε w S b F) (hm : 0 < e.n) (hS : ∀ k, S k → S' k) (hF : ∀ k, F k → S' k) : (slcE e xs).p ε w S' b := by
  rcases h with ⟨e0, eb, _⟩ | ⟨g, n', cap, cs, rest, eb, eF', hg, h1', hcap, _, hln, hcs⟩
  · have h0 := flat_len e xs
    rw [e0] at h0
    have : xs.length = 0 := by rcases Nat.mul_eq_zero.1 h0.symm with h | h <;> omega
    exact ⟨none, 0, by rw [eb, this], by omega, flat_len e xs, .inl this⟩
  · have hn' : n' = xs.length := Nat.eq_of_mul_eq_mul_right hm (hln.symm.trans (flat_len e xs))
    subst hn'
    refine ⟨some ⟨g, 0, none⟩, cap, eb, ?_, flat_len e xs, .inr ⟨g, 0, rfl, hF g (by rw [eF']; rfl), (cs ++ rest).toArray, te, (0, 0), cs, hg, fun j u hj => ?_, h1', ?_⟩⟩
    · have hle : xs.length * e.n ≤ cap * e.n := by rw [← hcap, List.length_append, all2_length hcs, flat_len]; omega
      exact Nat.le_of_mul_le_mul_right hle hm
    · rw [Nat.zero_add]
      simp only [List.getElem?_toArray]
      rw [List.getElem?_append_left (List.getElem?_eq_some_iff.1 hj).1]; exact hj
    · exact all2_mono (fun k hk _ => ⟨hS k hk, rfl⟩) hcs (by rw [flat_nm]; intro r' hr'; cases hr')
theorem Ok.giveM {x : Code} {Q : Exit → Act → World → Prop} (t : Nat) (ht : tget T t = some (.own r)) (hh : hget H r = some (.mat e te s [])) (hk : hget H s = some (.store e tr M)) (hm : Nat.blt 0 e.n = true) (hne : Nat.beq r s = false)
    (h : Ok P c ((t, slcE (Enc.slice e) M) :: T) ((r, .dead) :: (s, .dead) :: H) x Q) : Ok P c T H x Q := by
  intro a w ⟨ε, φ, hs⟩
  have hm0 : 0 < e.n := by simpa using hm
  have hne' : r ≠ s := fun e => by subst e; simp at hne
  have hv : a.tmps.getD t undef = ε r := (hs.t t _ ht).1
  have hout := hs.h r _ hh
  have hsto := hs.h s _ hk
  have hrow := mat_row hout hsto
  let φ' : Nat → Reg := upd (upd φ r noBlocks) s noBlocks
  have f1 : φ' r = noBlocks := by show upd (upd φ r noBlocks) s noBlocks r = _; rw [upd_ne _ _ hne', upd_same]
  have f2 : φ' s = noBlocks := upd_same _ _ _
  have f3 : ∀ q, q ≠ r → q ≠ s → φ' q = φ q := fun q h1 h2 => by show upd (upd φ r noBlocks) s noBlocks q = _; rw [upd_ne _ _ h2, upd_ne _ _ h1]
  have hL : ∀ q, hget [(r, Hp.dead), (s, Hp.dead)] q = if q = r then some .dead else if q = s then some .dead else none := by
    intro q
    simp only [hget]
    cases h1 : Nat.beq q r with
    | true => rw [if_pos (Nat.eq_of_beq_eq_true h1)]
    | false =>
      rw [if_neg (fun e => by subst e; simp at h1)]
      cases h2 : Nat.beq q s with
      | true => rw [if_pos (Nat.eq_of_beq_eq_true h2)]
      | false => rw [if_neg (fun e => by subst e; simp at h2)]
  have cls : ∀ q, hget [(r, Hp.dead), (s, Hp.dead)] q ≠ none → φ' q = noBlocks := by
    intro q h
    rw [hL] at h
    by_cases h1 : q = r
    · rw [h1, f1]
    · by_cases h2 : q = s
      · rw [h2, f2]
      · simp [h1, h2] at h
  have hR := hs.regroup (L := [(r, .dead), (s, .dead)]) (ε' := ε) (φ' := φ') (fun _ _ => rfl) (fun q hq => by
      rw [hL] at hq
      by_cases h1 : q = r
      · simp [h1] at hq
      · by_cases h2 : q = s
        · simp [h1, h2] at hq
        · exact f3 q h1 h2) (fun q k hq hk => by rw [cls q hq] at hk; exact hk.elim) (fun q q' hq hq' _ k hk => by rw [cls q hq] at hk; exact hk.elim)
      (fun q y hq => by
        have : φ' q = noBlocks := cls q (by rw [hq]; simp)
        rw [hL] at hq
        by_cases h1 : q = r
        · rw [if_pos h1] at hq; injection hq with hq; subst hq; exact this
        · rw [if_neg h1] at hq
          by_cases h2 : q = s
          · rw [if_pos h2] at hq; injection hq with hq; subst hq; exact this
          · rw [if_neg h2] at hq; cases hq)
      (fun q y hq q' hq' => by
        rw [hL] at hq
        by_cases h1 : q = r
        · rw [if_pos h1] at hq; injection hq with hq; subst hq; cases hq'
        · rw [if_neg h1] at hq
          by_cases h2 : q = s
          · rw [if_pos h2] at hq; injection hq with hq; subst hq; cases hq'
          · rw [if_neg h2] at hq; cases hq)
  have hSr : ∀ q, (q = r ∨ q = s) → ∀ k, φ q k → Am.reg c (updH (hget H) [(r, .dead), (s, .dead)]) φ' k := by
    intro q hq k hk
    have hq0 : hget H q ≠ none := by rcases hq with rfl | rfl <;> simp [hh, hk]
    have hlo := hs.lo q hq0 k hk
    refine ⟨hlo.1.elim (fun h => .inr (.inl h)) (fun h => .inr (.inr h)), fun q' hq' hf => ?_⟩
    by_cases h1 : q' = r
    · rw [h1, f1] at hf; exact hf
    · by_cases h2 : q' = s
      · rw [h2, f2] at hf; exact hf
      · rw [f3 q' h1 h2] at hf
        have h0 : hget H q' ≠ none := by
          intro h0
          apply hq'
          simp only [updH]
          rw [hL, if_neg h1, if_neg h2]
          exact h0
        exact hs.dj q q' hq0 h0 (by rcases hq with rfl | rfl <;> exact Ne.symm (by assumption)) k hk hf
  refine h a w ⟨ε, φ', put_same (by
    have := hR.1
    rw [hget_append] at this
    exact this) ?_ rfl⟩
  have hreg : ∀ k, Am.reg c (hget H) φ k → Am.reg c (hget ([(r, Hp.dead), (s, Hp.dead)] ++ H)) φ' k := by rw [← hget_append]; exact hR.2
  rw [hget_append] at hSr
  obtain ⟨vs, G, e1, e2, e3, e4, e5⟩ := hsto
  rw [List.map_nil, List.append_nil] at hrow
  have hfl : flat (Enc.slice e) M = M.map (slcE e) := flat_slice e M
  have hrow2 : rowP 1 te (M.map (slcE e)) ε w (Am.reg c (hget ([(r, Hp.dead), (s, Hp.dead)] ++ H)) φ') (ε r) (φ r) := by
    rcases hrow with ⟨h0, h1, h2⟩ | ⟨g, n, cap, cs, rest, h1, h2, h3, h4, h5, h8, h6, h7⟩
    · have : M.length = 0 := by have := congrArg List.length h0; rwa [mcells_len] at this
      have : M = [] := List.eq_nil_of_length_eq_zero this
      exact .inl ⟨by rw [this]; rfl, h1, h2⟩
    · refine .inr ⟨g, n, cap, cs, rest, h1, h2, h3, h4, h5, h8, by rw [← h6]; simp [mcells_len], ?_⟩
      have hcl := all2_length h7
      rw [mcells_len] at hcl
      have key : ∀ (N : List (List α)) (us : List Value), us.length = N.length → (∀ (k : Nat) (xs : List α) (v : Value), N[k]? = some xs → us[k]? = some v → (slcE e xs).p ε w (Am.reg c (hget ([(r, Hp.dead), (s, Hp.dead)] ++ H)) φ') v) → all2 ε w (Am.reg c (hget ([(r, Hp.dead), (s, Hp.dead)] ++ H)) φ') (N.map (slcE e)) us := by
        intro N
        induction N with
        | nil => intro us hl _; have := List.eq_nil_of_length_eq_zero hl; subst this; exact trivial
        | cons x N ih =>
          intro us hl hk'
          cases us with
          | nil => simp at hl
          | cons u us =>
            exact ⟨hk' 0 x u rfl rfl, ih us (by simpa using hl) (fun k xs v hx hv => hk' (k + 1) xs v (by simpa using hx) (by simpa using hv))⟩
      refine key M cs hcl (fun k xs v hx hv => ?_)
      have hkl : k < M.length := (List.getElem?_eq_some_iff.1 hx).1
      have hv2 : vs[k]? = some v := by
        have := all2_mcells (s := s) (S := Am.reg c (hget H) φ) (w := w) e1 (by rw [e2]; exact h7)
        rw [this] at hv
        simpa using hv
      exact row_given (e3 k xs v hx hv2) hm0 hreg (fun i hi => hSr s (.inr rfl) i ((e5 i).2 ⟨k, hkl, hi⟩))
  have := row_given (e := Enc.slice e) (te := te) (xs := M) (F := φ r) (S := Am.reg c (hget ([(r, Hp.dead), (s, Hp.dead)] ++ H)) φ') (by show rowP 1 te (flat (Enc.slice e) M) _ _ _ _ _; rw [hfl]; exact hrow2) (show 0 < 1 by decide) (fun _ h => h) (fun i hi => hSr r (.inl rfl) i hi)
  rw [hv]; exact this
end
end Go.Am
namespace Go.Am
open Go.RowKit
section
variable {P : Program} {os : List Oper} {c : Ctx} {T T' : List (Nat × D)} {H H' : List (Nat × Hp)} {sps : List Spec}
variable {ops : Array Oper} {dst : Option Nat} {ty : TypeId} {pos : String} {aft : Array Edge}
variable {α : Type} {e : Enc α} {te tr : TypeId} {r s : Nat} {M X : List (List α)}
theorem vcells_push (vs : Array Value) (v : Value) : vcells (vs.push v).toList = vcells vs.toList ++ [D.lit v] := by simp [vcells]
theorem more_rows {ε : Env} {w : World} {S : Reg} {F1 : Reg} {xs : List α} {vs : Array Value} {G : Nat → Reg} {v : Value} (h1 : vs.size = M.length) (h2 : ∀ k xs v, M[k]? = some xs → vs[k]? = some v → (rowE e tr xs).p ε w S v (G k)) (h3 : ∀ k k', k < M.length → k' < M.length → k ≠ k' → ∀ i, G k i → ¬ G k' i) (hx : (rowE e tr xs).p ε w S v F1) (hd : ∀ k, k < M.length → ∀ i, G k i → ¬ F1 i) :
    ((vs.push v).size = (M ++ [xs]).length) ∧ (∀ k ys u, (M ++ [xs])[k]? = some ys → (vs.push v)[k]? = some u → (rowE e tr ys).p ε w S u (upd G M.length F1 k)) ∧ (∀ k k', k < (M ++ [xs]).length → k' < (M ++ [xs]).length → k ≠ k' → ∀ i, upd G M.length F1 k i → ¬ upd G M.length F1 k' i) ∧ (∀ k, k < (M ++ [xs]).length → ∀ i, upd G M.length F1 k i → (k < M.length ∧ G k i) ∨ F1 i) := by
  have gn : upd G M.length F1 M.length = F1 := upd_same _ _ _
  have gk : ∀ k, k < M.length → upd G M.length F1 k = G k := fun k hk => upd_ne _ _ (by omega)
  refine ⟨by simp [h1], fun k ys u hy hu => ?_, fun k k' hk hk' hne i hi => ?_, fun k hk i hi => ?_⟩
  · by_cases hk : k < M.length
    · rw [List.getElem?_append_left hk] at hy
      rw [Array.getElem?_push_lt (by omega)] at hu
      rw [gk k hk]
      exact h2 k ys u hy (by rw [← hu]; simp [h1, hk])
    · have hlt := (List.getElem?_eq_some_iff.1 hy).1
      simp only [List.length_append, List.length_singleton] at hlt
      have : k = M.length := by omega
      subst this
      rw [gn]
      simp at hy
      subst hy
      rw [← h1] at hu
      simp at hu
      subst hu
      exact hx
  · simp only [List.length_append, List.length_singleton] at hk hk'
    by_cases a1 : k < M.length
    · rw [gk k a1] at hi
      by_cases a2 : k' < M.length
      · rw [gk k' a2]; exact h3 k k' a1 a2 hne i hi
      · have : k' = M.length := by omega
        subst this; rw [gn]; exact hd k a1 i hi
    · have : k = M.length := by omega
      subst this
      rw [gn] at hi
      have a2 : k' < M.length := by omega
      rw [gk k' a2]
      exact fun h => hd k' a2 i h hi
  · simp only [List.length_append, List.length_singleton] at hk
    by_cases a1 : k < M.length
    · rw [gk k a1] at hi; exact .inl ⟨a1, hi⟩
    · have : k = M.length := by omega
      subst this
      rw [gn] at hi; exact .inr hi
end
end Go.Am
namespace Go.Am
open Go.RowKit
section
variable {P : Program} {os : List Oper} {c : Ctx} {T T' : List (Nat × D)} {H H' : List (Nat × Hp)} {sps : List Spec}
variable {ops : Array Oper} {dst : Option Nat} {ty : TypeId} {pos : String} {aft : Array Edge}
variable {α : Type} {e : Enc α} {te tr : TypeId} {r s : Nat} {M X : List (List α)}
theorem Runs.apM {t : TypeId} {x y : Operand} {rl r1 r2 s2 bt : Nat} {z : List D} {dx : D} {xs : List α} (hx : ev T x = some dx) (hle : Le dx (.own r)) (hy : ev T y = some (.own rl)) (hh : hget H r = some (.mat e te s [])) (hk : hget H s = some (.store e tr M)) (hl : hget H rl = some (.rowX 1 te [.own r1])) (h1 : hget H r1 = some (rowE e tr xs))
    (hm : mkf P t = some (te, 1, bt, z)) (hb : (M.length + 1) * bt ≤ 140737488355328) (hmax : M.length + 1 ≤ 9223372036854775807) (hf : hget H r2 = none) (hf2 : hget H s2 = none) (hne : r ≠ s ∧ r ≠ r1 ∧ s ≠ r1 ∧ r ≠ rl ∧ s ≠ rl ∧ r1 ≠ rl ∧ r2 ≠ s2)
    (hr : Runs P ops c os ((r2, .own r2) :: T) ((r2, .mat e te s2 []) :: (s2, .store e tr (M ++ [xs])) :: (s, .dead) :: (r1, .dead) :: (rl, .dead) :: (r, .dead) :: H) sps T' H') :
    Runs P ops c (⟨some r2, .call { callee := .builtin .append, args := #[x, y], argTypes := #[t, t] }, ty, pos, aft, none⟩ :: os) T H
      ({ ins := need x dx ++ need y (.own rl), hin := [(r, .mat e te s []), (s, .store e tr M), (rl, .rowX 1 te [.own r1]), (r1, rowE e tr xs)], out := .own r2, hout := [(r2, .mat e te s2 []), (s2, .store e tr (M ++ [xs])), (s, .dead), (r1, .dead), (rl, .dead), (r, .dead)], news := [r2, s2] } :: sps) T' H' := by
  refine .cons (sp := { ins := need x dx ++ need y (.own rl), hin := [(r, .mat e te s []), (s, .store e tr M), (rl, .rowX 1 te [.own r1]), (r1, rowE e tr xs)], out := .own r2, hout := [(r2, .mat e te s2 []), (s2, .store e tr (M ++ [xs])), (s, .dead), (r1, .dead), (rl, .dead), (r, .dead)], news := [r2, s2] }) ?_ (insOk_append.2 ⟨(ev_split hx).1, (ev_split hy).1⟩) ⟨hh, hk, hl, h1, trivial⟩ ⟨hf, hf2, trivial⟩ hr
  intro hdst T0 H0 hi hin hnew a w ⟨ε, φ, hs⟩ Q K hK
  rw [if_pos (cell_wanted rfl _)]
  obtain ⟨hi1, hi2⟩ := insOk_append.1 hi
  have hxe : a.eval x = ε r := (hle.1 _ _ _ _ (hs.ev hi1 (ev_split hx).2).1).1
  have hye : a.eval y = ε rl := (hs.ev hi2 (ev_split hy).2).1.1
  obtain ⟨hr0, hs0, hl0, hr10, _⟩ := hin
  obtain ⟨hn1, hn2, _⟩ := hnew
  have live : ∀ q y, H0 q = some y → q ≠ r2 ∧ q ≠ s2 := fun q y hq => ⟨fun (e' : q = r2) => (by rw [e', hn1] at hq; cases hq), fun (e' : q = s2) => (by rw [e', hn2] at hq; cases hq)⟩
  obtain ⟨vs, G, e1, e2, _⟩ := hs.h s _ hs0
  have hrow := mat_vals e1 (hs.h r _ hr0)
  rw [List.map_nil, List.append_nil] at hrow
  have hT := hs.tell (y := .row 1 te (vcells vs.toList) (vcells_nm _)) hr0 hrow (fun q hq => by cases hq)
  have q1 : updH H0 [(r, Hp.row 1 te (vcells vs.toList) (vcells_nm _))] r = some (.row 1 te (vcells vs.toList) (vcells_nm _)) := by rw [updH_one, upd_same]
  have qn : ∀ q, q ≠ r → updH H0 [(r, Hp.row 1 te (vcells vs.toList) (vcells_nm _))] q = H0 q := fun q hq => by rw [updH_one, upd_ne _ _ hq]
  -- the literal
  rcases hs.h rl _ hl0 with ⟨h0, _, _⟩ | ⟨g, n', cap, cs, rest, hb', eF, hg, hc1, hcap, hmaxc, hln, hcs⟩
  · cases h0
  have hn' : n' = 1 := by simpa using hln.symm
  subst hn'
  have hcs1 : cs = [ε r1] := by
    match cs, hcs with
    | [v], h => rw [h.1.1]
  subst hcs1
  have hv1 : (ε r1).oneCell' = true := hc1 _ (by simp)
  obtain ⟨v', w', ε', φ', hrun, hS, ev', ho, hεε⟩ := hT.appE (P := P) (ty := ty) hm (r := r2) (n1 := M.length) (n2 := 1) (l2 := [D.lit (ε r1)]) (l := vcells (vs.push (ε r1)).toList) (hl := vcells_nm _) q1 (by rw [qn _ (Ne.symm (live r _ hr0).1)]; exact hn1) (by rw [vcells_len]; simpa using e2) rfl rfl (vcells_push vs (ε r1)).symm
    (A := some ⟨g, 0, none⟩) (cap2 := cap) (vs := [ε r1]) (.inr ⟨g, 0, rfl, fun j u hj => by
      rw [Nat.zero_add, box_cell hg]
      rw [List.getElem?_append_left (List.getElem?_eq_some_iff.1 hj).1]; exact hj⟩) (by simpa using hv1) ⟨rfl, trivial⟩ hb hmax
  have hrun' : (Builtin.append_ #[t, t] ty #[a.eval x, a.eval y]).run P w = .ok v' w' := by rw [hxe, hye, hb']; exact hrun
  simp only [Oper.wp, run_app_op a w w' hrun', Oper.upon]
  have n1 := live r _ hr0
  have n2 := live s _ hs0
  have n3 := live r1 _ hr10
  have n4 := live rl _ hl0
  have hUU : updH (updH H0 [(r, Hp.row 1 te (vcells vs.toList) (vcells_nm _))]) [(r, .dead), (r2, .row 1 te (vcells (vs.push (ε r1)).toList) (vcells_nm _))] = updH H0 [(r, .dead), (r2, .row 1 te (vcells (vs.push (ε r1)).toList) (vcells_nm _))] := updH_over (by simp [hget])
  have hcast : SatE c T0 (updH H0 [(r, .dead), (r2, .row 1 te (vcells (vs.push (ε r1)).toList) (vcells_nm _))]) a w' ε' φ' := by rw [← hUU]; exact hS
  clear hS
  replace hcast := hcast.put (dst := some r2) (d := .own r2) (dst_lt hdst) ⟨ev'.symm, ho⟩ (fun q hq => by
    have : q = r2 := by simpa [D.own] using hq
    subst this
    rw [updH_two, upd_ne _ _ (Ne.symm (live r _ hr0).1), upd_same]; simp)
  have U : ∀ q, q ≠ r → q ≠ r2 → updH H0 [(r, .dead), (r2, .row 1 te (vcells (vs.push (ε r1)).toList) (vcells_nm _))] q = H0 q := fun q h1 h2 => by rw [updH_two, upd_ne _ _ h1, upd_ne _ _ h2]
  have u1 := (U s (Ne.symm hne.1) n2.1).trans hs0
  have u2 := (U r1 (Ne.symm hne.2.1) n3.1).trans hr10
  have u5 := (U rl (Ne.symm hne.2.2.2.1) n4.1).trans hl0
  have u3 : updH H0 [(r, .dead), (r2, .row 1 te (vcells (vs.push (ε r1)).toList) (vcells_nm _))] r2 = some (.row 1 te (vcells (vs.push (ε r1)).toList) (vcells_nm _)) := by rw [updH_two, upd_ne _ _ (Ne.symm n1.1), upd_same]
  have u4 := (U s2 (Ne.symm n1.2) (Ne.symm hne.2.2.2.2.2.2)).trans hn2
  obtain ⟨vs', G', f1, f2, f3, f4, f5⟩ := hcast.h s _ u1
  rw [hεε s n2.1, e1] at f1
  injection f1 with f1
  subst f1
  have hx1 := hcast.h r1 _ u2
  rw [hεε r1 n3.1] at hx1
  obtain ⟨g1, g2, g3, g4⟩ := more_rows f2 f3 f4 hx1 (fun k hk i hi hi' => hcast.dj s r1 (by rw [u1]; simp) (by rw [u2]; simp) hne.2.2.1 i ((f5 i).2 ⟨k, hk, hi⟩) hi')
  have hG := hcast.gather (r := r2) (te := te) (X := []) (e := e) [s, r1, rl] (fun q hq => by
      simp only [List.mem_cons, List.not_mem_nil, or_false] at hq
      rcases hq with rfl | rfl | rfl
      · rw [u1]; simp
      · rw [u2]; simp
      · rw [u5]; simp) u4 (by rw [u3]; simp) (by simp [Ne.symm n2.1, Ne.symm n3.1, Ne.symm n4.1]) (vs.push (ε r1)) _ g1 g2 g3 (fun k hk i hi => (g4 k hk i hi).elim (fun h => ⟨s, by simp, (f5 i).2 ⟨k, h.1, h.2⟩⟩) (fun h => ⟨r1, by simp, h⟩)) (by
        rw [List.map_nil, List.append_nil]
        exact hcast.h r2 _ u3)
  have hfin : updH (updH H0 [(r, .dead), (r2, .row 1 te (vcells (vs.push (ε r1)).toList) (vcells_nm _))]) ((r2, Hp.mat e te s2 []) :: (s2, Hp.store e tr (M ++ [xs])) :: [s, r1, rl].map fun k => (k, Hp.dead)) = updH H0 [(r2, .mat e te s2 []), (s2, .store e tr (M ++ [xs])), (s, .dead), (r1, .dead), (rl, .dead), (r, .dead)] := by
    funext q
    simp only [updH, hget, List.map_cons, List.map_nil]
    cases Nat.beq q r2 <;> cases Nat.beq q s2 <;> cases Nat.beq q s <;> cases Nat.beq q r1 <;> cases Nat.beq q rl <;> cases Nat.beq q r <;> rfl
  rw [hfin] at hG
  exact hK _ _ hG
end
end Go.Am
namespace Go.Am
open Go.RowKit
section
variable {P : Program} {os : List Oper} {c : Ctx} {T T' : List (Nat × D)} {H H' : List (Nat × Hp)} {sps : List Spec}
variable {ops : Array Oper} {dst : Option Nat} {ty : TypeId} {pos : String} {aft : Array Edge}
variable {α : Type} {e : Enc α} {te tr : TypeId} {r s : Nat} {M X : List (List α)}
end
end Go.Am
namespace Go.Am
open Go.RowKit
theorem HLeR.mat {α : Type} {ρ : Nat → Nat} {e : Enc α} {te : TypeId} {s : Nat} {X : List (List α)} : HLeR ρ (.mat e te (ρ s) X) (.mat e te s X) := by
  refine ⟨fun ε w S b F h => ?_, fun r hr => ?_⟩
  · obtain ⟨vs, e1, _⟩ := id h
    have := mat_vals e1 h
    exact vals_mat (ε := fun r => ε (ρ r)) e1 (rowP_mono this (by rw [nms_append (vcells_nm _) (nms_slices e X)]; intro r hr; cases hr) (fun _ hk _ => ⟨hk, rfl⟩) (fun _ _ => rfl))
  · have : r = s := by simpa [Hp.mat] using hr
    subst this; simp [Hp.mat]
section
variable {P : Program} {os : List Oper} {c : Ctx} {T T' : List (Nat × D)} {H H' : List (Nat × Hp)} {sps : List Spec}
variable {ops : Array Oper} {dst : Option Nat} {ty : TypeId} {pos : String} {aft : Array Edge}
variable {α : Type} {e : Enc α} {te tr : TypeId} {r s : Nat} {M X : List (List α)}
end
end Go.Am
namespace Go.Am
open Go.RowKit
theorem LeR.clo {ρ : Nat → Nat} {f : FuncId} {l l' m m' : List D} (h1 : LeLR ρ l l') (h2 : LeLR ρ m m') : LeR ρ (.clo f l m) (.clo f l' m') :=
  ⟨fun _ _ _ _ ⟨vs, us, e, a1, a2⟩ => ⟨vs, us, e, h1.all a1, h2.all a2⟩, fun r hr => by
    rcases List.mem_append.1 hr with h | h
    · exact List.mem_append.2 (.inl (h1.nms r h))
    · exact List.mem_append.2 (.inr (h2.nms r h))⟩
section
variable {P : Program} {os : List Oper} {c : Ctx} {T T' : List (Nat × D)} {H H' : List (Nat × Hp)} {sps : List Spec}
variable {ops : Array Oper} {dst : Option Nat} {ty : TypeId} {pos : String} {aft : Array Edge}
variable {α : Type} {e : Enc α} {te tr : TypeId} {r s : Nat} {M X : List (List α)}
theorem Ok.slM0 {x : Code} {Q : Exit → Act → World → Prop} (t : Nat) (ht : tget T t = some (.own r)) (hh : hget H r = some (.mat e te s [])) (hk : hget H s = some (.store e tr M))
    (h : Ok P c ((t, .sl r M.length) :: T) H x Q) : Ok P c T H x Q := .slM t ht hh hk h
theorem Runs.bl1 {t te : TypeId} {r r1 : Nat} {x : Operand} {bt : Nat} {z : D} (hx : ev T x = some (.own r1)) (hm : mkf P t = some (te, 1, bt, [z])) (hf : hget H r = none)
    (hr : Runs P ops c os ((r, .own r) :: T) ((r, .rowX 1 te [.own r1]) :: H) sps T' H') :
    Runs P ops c (⟨some r, .buildSlice t 1 #[(0, x)], ty, pos, aft, none⟩ :: os) T H (rws (qs [(0, x, .own r1, [.own r1])]) r (.rowX 1 te [.own r1]) :: sps) T' H' :=
  .blX (parts := [(0, x)]) [.own r1] [(0, x, .own r1, [.own r1])] hm rfl rfl ⟨rfl, rfl, .one rfl, rfl, trivial⟩ (by intro y hy; simp [qs] at hy; subst hy; exact hx) rfl rfl (fun r' hr' => ⟨(x, .own r1), by simp [qs], by simpa [nms] using hr'⟩) hf hr
theorem Runs.blE0 {α : Type} (e : Enc α) {t te : TypeId} {r m bt : Nat} {z : List D} (hm : mkf P t = some (te, m, bt, z)) (hmn : m = e.n) (hf : hget H r = none) (hr : Runs P ops c os ((r, .own r) :: T) ((r, rowE e te []) :: H) sps T' H') :
    Runs P ops c (⟨some r, .buildSlice t 0 #[], ty, pos, aft, none⟩ :: os) T H ({ ins := [], hin := [], out := .own r, hout := [(r, rowE e te [])], news := [r] } :: sps) T' H' := by
  subst hmn
  have h0 := Runs.blR (P := P) (ops := ops) (c := c) (os := []) (T := T) (H := H) (ty := ty) (pos := pos) (aft := aft) hm hf .nil
  cases h0 with
  | cons h1 h2 h3 h4 _ => exact .cons h1 h2 h3 h4 hr
theorem updH_self {H0 : Nat → Option Hp} {Hi : List (Nat × Hp)} (h : ∀ r x, hget Hi r = some x → H0 r = some x) : updH H0 Hi = H0 := by
  funext r
  simp only [updH]
  cases hq : hget Hi r with
  | none => rfl
  | some x => exact (h r x hq).symm
theorem LStep.keep {o : Oper} {xs : List (Operand × D)} {Hi : List (Nat × Hp)} {d : D} (h : LStep P ops c o (gsp xs Hi Hi d)) (hn : newNames Hi Hi = []) : LStep P ops c o { ins := xs.flatMap fun x => need x.1 x.2, hin := Hi, out := d, hout := [], news := [] } := by
  intro hd T0 H0 hi hin _ a w hs Q K hK
  refine h hd T0 H0 hi hin (show newOk H0 (newNames Hi Hi) by rw [hn]; exact trivial) a w hs Q K (fun a' w' hs' => hK a' w' ?_)
  have : updH H0 Hi = H0 := updH_self (hinOk_get hin)
  show Sat c (updT T0 o.dst d) (updH H0 []) a' w'
  have hs2 : Sat c (updT T0 o.dst d) (updH H0 Hi) a' w' := hs'
  rw [this] at hs2
  rw [updH_nil]; exact hs2
theorem Runs.callGk {f : FuncId} {xs : List Operand} {ats : Array TypeId} {Hi : List (Nat × Hp)} {ds : List D} {d : D} (hc : CtrG P f Hi ds Hi d) (he : evs T xs ds) (hin : hasAll H Hi) (hn : newNames Hi Hi = [])
    (hr : Runs P ops c os (tput T dst d) H sps T' H') :
    Runs P ops c (⟨dst, .call { callee := .value (.func f), args := xs.toArray, argTypes := ats }, ty, pos, aft, none⟩ :: os) T H ({ ins := (xs.zip ds).flatMap fun x => need x.1 x.2, hin := Hi, out := d, hout := [], news := [] } :: sps) T' H' := by
  have h0 := Runs.callG (P := P) (ops := ops) (c := c) (os := []) (T := T) (H := H) (dst := dst) (ty := ty) (pos := pos) (aft := aft) (ats := ats) hc he hin (by rw [hn]; exact trivial) .nil
  cases h0 with
  | cons h1 h2 h3 h4 _ => exact .cons (h1.keep hn) h2 h3 trivial hr
theorem Runs.callVk {f : FuncId} {x : Operand} {xs : List Operand} {ats : Array TypeId} {Hi : List (Nat × Hp)} {l m ds : List D} {d : D} (hx : ev T x = some (.clo f l m)) (hc : CtrG P f Hi (l ++ ds ++ m) Hi d) (he : evs T xs ds) (hin : hasAll H Hi) (hn : newNames Hi Hi = [])
    (hr : Runs P ops c os (tput T dst d) H sps T' H') :
    Runs P ops c (⟨dst, .call { callee := .value x, args := xs.toArray, argTypes := ats }, ty, pos, aft, none⟩ :: os) T H ({ ins := ((x, D.clo f l m) :: xs.zip ds).flatMap fun x => need x.1 x.2, hin := Hi, out := d, hout := [], news := [] } :: sps) T' H' := by
  have h0 := Runs.callV (P := P) (ops := ops) (c := c) (os := []) (T := T) (H := H) (dst := dst) (ty := ty) (pos := pos) (aft := aft) (ats := ats) hx hc he hin (by rw [hn]; exact trivial) .nil
  cases h0 with
  | cons h1 h2 h3 h4 _ => exact .cons (h1.keep hn) h2 h3 trivial hr
end
end Go.Am
namespace Go.Am
open Go.RowKit
set_option maxRecDepth 100000
noncomputable section
def m_r_Right_l1 (a1 : List (List Rat)) (v4 : Int) (v5 : Int) : Option (St (Int × Int) (Ex Int (Int × Bool))) := (if (decide (v5 < (a1.length : Int))) = true then ((if (v5 == 0) = true then (ix a1 v5).bind fun v14 => some ((v14.length : Int)) else some (v4))).bind fun v16 => (ix a1 v5).bind fun v17 => (if ((v17.length : Int) != v16) = true then some (St.done (Ex.ret (0, false))) else some (St.next (v16, (IntKind.i64.wrap (v5 + 1))))) else some (St.done (Ex.brk v4)))
def m_r_Right (a1 : List (List Rat)) : Option (Int × Bool) := ((Loop (fun (s : Int × Int) => m_r_Right_l1 a1 s.1 s.2) (0, 0)).bind fun o6 => (match o6 with | Ex.brk v20 => some (Ex.brk v20) | Ex.ret (r21, r22) => some (Ex.ret (r21, r22)))).bind fun o2 => (match o2 with | Ex.brk v23 => some (v23, true) | Ex.ret (r24, r25) => some (r24, r25))
theorem C_r_Right {a1 : List (List Rat)} {r26 : Int} {r27 : Bool} (h : m_r_Right a1 = some (r26, r27)) : CtrG PP 106 [] [slcE (Enc.slice Enc.rq) a1] [] (D.tup [D.int .i64 r26, D.bool r27]) := by
  unfold m_r_Right at h
  refine .of Go.Proofs.Tryz.func106 rfl (by kernel_rfl) rfl rfl rfl rfl rfl rfl (fun A w0 L b => ?_)
  show Ok PP _ [(0, slcE (Enc.slice Enc.rq) a1)] [] _ _
  refine .reg (.asg rfl <| .asg rfl <| .nil) rfl ?_
  refine .reg (.asg rfl <| .nil) rfl ?_
  obtain ⟨o2, hp3, h⟩ := bind_some h
  refine .cutX (fun i => o2 = Ex.brk i) (fun (i : Int) => [(4, D.int .i64 i)]) (fun (i : Int) => []) ?_ ?_
  · have ho1 := h
    clear h
    have h := hp3
    clear hp3
    refine .reg (.asg rfl <| .nil) rfl ?_
    obtain ⟨o6, hl7, h⟩ := bind_some h
    have ho2 := h
    clear h
    refine .block (.loopL (fun (s : Int × Int) => [(0, slcE (Enc.slice Enc.rq) a1), (4, D.int .i64 s.1), (5, D.int .i64 s.2)]) (fun (s : Int × Int) => []) hl7 ⟨⟨_, rfl, .refl _⟩, ⟨_, rfl, .refl _⟩, ⟨_, rfl, .refl _⟩, trivial⟩ trivial rfl rfl ?_)
    rintro ⟨v4, v5⟩ st8 hb9
    have h : m_r_Right_l1 a1 v4 v5 = some st8 := hb9
    clear hb9
    unfold m_r_Right_l1 at h
    show Ok PP _ [(0, slcE (Enc.slice Enc.rq) a1), (4, D.int .i64 v4), (5, D.int .i64 v5)] [] _ _
    refine .sq ?_
    refine .reg (.mv rfl <| .mv rfl <| .lnE rfl is_ambleref01_Mat <| .cm rfl rfl rfl <| .nil) rfl ?_
    by_cases c10 : (decide (v5 < (a1.length : Int))) = true
    · replace h := ite_pos_some c10 h
      refine .cTb rfl c10 ?_
      refine .skip (Ok.on ?_)
      refine .sq ?_
      refine .block ?_
      obtain ⟨v16, hp12, h⟩ := bind_some h
      refine .cutX (fun i => v16 = i) (fun (i : Int) => [(0, slcE (Enc.slice Enc.rq) a1), (4, D.int .i64 i), (5, D.int .i64 v5)]) (fun (i : Int) => []) ?_ ?_
      · have ho3 := h
        clear h
        have h := hp12
        clear hp12
        refine .reg (.mv rfl <| .cm rfl rfl rfl <| .nil) rfl ?_
        by_cases c13 : (v5 == 0) = true
        · replace h := ite_pos_some c13 h
          refine .cTb rfl c13 ?_
          obtain ⟨v14, e15, h⟩ := bind_some h
          refine .region (.mv rfl <| .mv rfl <| .ixE rfl rfl se_ambleref01_Mat (ix_some e15).1 (ix_some e15).2 <| .lp1 rfl ly_Lambleref01_Q <| .lnE rfl is_Lambleref01_Q <| .asg rfl <| .nil) rfl (fun _ _ hs => ⟨(v14.length : Int), (Option.some.inj h).symm, hs.sub ⟨⟨_, rfl, .refl _⟩, ⟨_, rfl, .refl _⟩, ⟨_, rfl, .refl _⟩, trivial⟩ trivial rfl rfl⟩)
        · replace h := ite_neg_some c13 h
          refine .cFb rfl c13 ?_
          refine .skip (fun _ _ hs => ⟨v4, (Option.some.inj h).symm, hs.sub ⟨⟨_, rfl, .refl _⟩, ⟨_, rfl, .refl _⟩, ⟨_, rfl, .refl _⟩, trivial⟩ trivial rfl rfl⟩)
      · rintro _ rfl
        show Ok PP _ [(0, slcE (Enc.slice Enc.rq) a1), (4, D.int .i64 v16), (5, D.int .i64 v5)] [] _ _
        obtain ⟨v17, e18, h⟩ := bind_some h
        refine .reg (.mv rfl <| .mv rfl <| .ixE rfl rfl se_ambleref01_Mat (ix_some e18).1 (ix_some e18).2 <| .lp1 rfl ly_Lambleref01_Q <| .lnE rfl is_Lambleref01_Q <| .mv rfl <| .cm rfl rfl rfl <| .nil) rfl ?_
        by_cases c19 : ((v17.length : Int) != v16) = true
        · replace h := ite_pos_some c19 h
          refine .cTb rfl c19 ?_
          refine .reg (.asg rfl <| .asg rfl <| .nil) rfl ?_
          refine .retG (Hi := []) (Ho := []) (b := b) (fn := Go.Proofs.Tryz.f106) (d := D.tup [D.int .i64 0, D.bool false]) (fun _ _ hb => by exact ⟨_, (Option.some.inj h).symm, fun e => by subst e; have h := ho2; cases h; have h := ho1; cases h; exact hb⟩) rfl (.cons (.tmp rfl) (.cons (.tmp rfl) .nil)) (.refl _) trivial trivial
        · replace h := ite_neg_some c19 h
          refine .cFb rfl c19 ?_
          refine .skip (Ok.on ?_)
          refine .region (.mv rfl <| .ar rfl rfl rfl <| .asg rfl <| .nil) rfl (fun _ _ hs => ⟨(v16, (IntKind.i64.wrap (v5 + 1))), (Option.some.inj h).symm, hs.sub ⟨⟨_, rfl, .refl _⟩, ⟨_, rfl, .refl _⟩, ⟨_, rfl, .refl _⟩, trivial⟩ trivial rfl rfl⟩)
    · replace h := ite_neg_some c10 h
      refine .cFb rfl c10 ?_
      refine .exit (fun a w hs => ⟨_, (Option.some.inj h).symm, fun e => by subst e; have h := ho2; exact blk_exit (⟨v4, (Option.some.inj h).symm, hs.sub ⟨⟨_, rfl, .refl _⟩, trivial⟩ trivial rfl rfl⟩)⟩)
  · rintro v23 rfl
    show Ok PP _ [(4, D.int .i64 v23)] [] _ _
    refine .reg (.mv rfl <| .asg rfl <| .asg rfl <| .nil) rfl ?_
    cases h
    refine .retG (fun _ _ hb => hb) rfl (.cons (.tmp rfl) (.cons (.tmp rfl) .nil)) (.refl _) trivial trivial
def m_r_Zeros_l1 (a1 : Int) (a2 : Int) (v5 : Int) (v6 : List (List Rat)) : Option (St (Int × (List (List Rat))) (List (List Rat))) := (if (decide (v5 < a1)) = true then must ((0 : Int) ≤ a2 ∧ (64 : Int) * a2 ≤ 281474976710656 ∧ (a2 : Int) ≤ 9223372036854775807) (must ((v6.length + 1) * 24 ≤ 140737488355328 ∧ v6.length + 1 ≤ 9223372036854775807) (some (St.next ((IntKind.i64.wrap (v5 + 1)), (v6 ++ [(List.replicate a2.toNat 0)]))))) else some (St.done v6))
def m_r_Zeros (a1 : Int) (a2 : Int) : Option (List (List Rat)) := ((Loop (fun (s : Int × (List (List Rat))) => m_r_Zeros_l1 a1 a2 s.1 s.2) (0, ([] : List (List Rat)))).bind fun v14 => some (v14)).bind fun v15 => some v15
theorem C_r_Zeros {a1 : Int} {a2 : Int} {r16 : List (List Rat)} (h : m_r_Zeros a1 a2 = some r16) : CtrG PP 197 [] [D.int .i64 a1, D.int .i64 a2] [(2000005, Hp.mat Enc.rq 69 4000005 ([])), (4000005, Hp.store Enc.rq 37 r16)] (D.own 2000005) := by
  unfold m_r_Zeros at h
  refine .of Go.Proofs.Tryz.func197 rfl (by kernel_rfl) rfl rfl rfl rfl rfl rfl (fun A w0 L b => ?_)
  show Ok PP _ [(0, D.int .i64 a1), (1, D.int .i64 a2)] [] _ _
  refine .reg (.asg rfl <| .nil) rfl ?_
  refine .reg (.asg rfl <| .nil) rfl ?_
  obtain ⟨v15, hp4, h⟩ := bind_some h
  refine .cutX (fun i => v15 = i) (fun (i : (List (List Rat))) => [(5, D.own 2000005)]) (fun (i : (List (List Rat))) => [(2000005, Hp.mat Enc.rq 69 4000005 ([])), (4000005, Hp.store Enc.rq 37 i)]) ?_ ?_
  · have ho1 := h
    clear h
    have h := hp4
    clear hp4
    refine .reg (.asg rfl <| .nil) rfl ?_
    refine .nilM Enc.rq 5 2000005 4000005 69 37 rfl rfl rfl rfl ?_
    obtain ⟨o7, hl8, h⟩ := bind_some h
    have ho2 := h
    clear h
    refine .block (.loopL (fun (s : Int × (List (List Rat))) => [(0, D.int .i64 a1), (1, D.int .i64 a2), (5, D.own 2000005), (6, D.int .i64 s.1)]) (fun (s : Int × (List (List Rat))) => [(2000005, Hp.mat Enc.rq 69 4000005 ([])), (4000005, Hp.store Enc.rq 37 s.2)]) hl8 ⟨⟨_, rfl, .refl _⟩, ⟨_, rfl, .refl _⟩, ⟨_, rfl, .refl _⟩, ⟨_, rfl, .refl _⟩, trivial⟩ ⟨⟨_, rfl, .refl _⟩, ⟨_, rfl, .refl _⟩, trivial⟩ rfl rfl ?_)
    rintro ⟨v5, v6⟩ st9 hb10
    have h : m_r_Zeros_l1 a1 a2 v5 v6 = some st9 := hb10
    clear hb10
    unfold m_r_Zeros_l1 at h
    show Ok PP _ [(0, D.int .i64 a1), (1, D.int .i64 a2), (5, D.own 2000005), (6, D.int .i64 v5)] [(2000005, Hp.mat Enc.rq 69 4000005 ([])), (4000005, Hp.store Enc.rq 37 v6)] _ _
    refine .sq ?_
    refine .reg (.mv rfl <| .mv rfl <| .cm rfl rfl rfl <| .nil) rfl ?_
    by_cases c11 : (decide (v5 < a1)) = true
    · replace h := ite_pos_some c11 h
      refine .cTb rfl c11 ?_
      refine .skip (Ok.on ?_)
      refine .sq ?_
      refine .block ?_
      refine .slM0 5 rfl rfl rfl ?_
      obtain ⟨k12, h⟩ := must_some h
      obtain ⟨k13, h⟩ := must_some h
      refine .region (.mv rfl <| .mv rfl <| .mkE (e := Enc.rq) 0 rfl rfl mk_Lambleref01_Q rfl ⟨zr1, zr2, .refl _, zr4, trivial⟩ k12.1 k12.2.1 k12.2.2 rfl <| .bl1 rfl mk_ambleref01_Mat rfl <| .apM (s2 := 3000016) rfl .sl rfl rfl rfl rfl rfl mk_ambleref01_Mat k13.1 k13.2 rfl rfl ⟨by decide, by decide, by decide, by decide, by decide, by decide, by decide⟩ <| .asg rfl <| .nil) rfl (Ok.on ?_)
      refine .region (.mv rfl <| .ar rfl rfl rfl <| .asg rfl <| .nil) rfl (fun _ _ hs => ⟨((IntKind.i64.wrap (v5 + 1)), (v6 ++ [(List.replicate a2.toNat 0)])), (Option.some.inj h).symm, hs.subR (fun r => match r with | 2000005 => 16 | 4000005 => 3000016 | r => r) ⟨⟨_, rfl, .refl rfl⟩, ⟨_, rfl, .refl rfl⟩, ⟨_, rfl, .own (r := 2000005)⟩, ⟨_, rfl, .refl rfl⟩, trivial⟩ ⟨⟨_, rfl, .mat (s := 4000005)⟩, ⟨_, rfl, .refl rfl⟩, trivial⟩ rfl rfl rfl⟩)
    · replace h := ite_neg_some c11 h
      refine .cFb rfl c11 ?_
      refine .exit (fun a w hs => ⟨_, (Option.some.inj h).symm, fun e => by subst e; have h := ho2; exact blk_exit (⟨v6, (Option.some.inj h).symm, hs.sub ⟨⟨_, rfl, .refl _⟩, trivial⟩ ⟨⟨_, rfl, .refl _⟩, ⟨_, rfl, .refl _⟩, trivial⟩ rfl rfl⟩)⟩)
  · rintro _ rfl
    show Ok PP _ [(5, D.own 2000005)] [(2000005, Hp.mat Enc.rq 69 4000005 ([])), (4000005, Hp.store Enc.rq 37 v15)] _ _
    refine .slM0 5 rfl rfl rfl ?_
    refine .reg (.mv rfl <| .asg rfl <| .nil) rfl ?_
    refine .leT 4 (.own 2000005) rfl .sl ?_
    cases h
    refine .retG (fun _ _ hb => hb) rfl (.cons (.tmp rfl) .nil) (.refl _) trivial ⟨⟨_, rfl, .refl _⟩, ⟨_, rfl, .refl _⟩, trivial⟩
def m_r_Trans_l2 (a1 : List (List Rat)) (v2 : Int) (v9 : Int) (v18 : Int) (v19 : List (List Rat)) : Option (St (Int × (List (List Rat))) (List (List Rat))) := (if (decide (v18 < v2)) = true then (ix v19 v18).bind fun v25 => (ix a1 v9).bind fun v27 => (ix v27 v18).bind fun v29 => (ix v25 v9).bind fun v31 => some (St.next ((IntKind.i64.wrap (v18 + 1)), (v19.set v18.toNat (v25.set v9.toNat v29)))) else some (St.done v19))
def m_r_Trans_l1 (a1 : List (List Rat)) (v2 : Int) (v9 : Int) (v10 : List (List Rat)) : Option (St (Int × (List (List Rat))) (List (List Rat))) := (if (decide (v9 < (a1.length : Int))) = true then ((Loop (fun (s : Int × (List (List Rat))) => m_r_Trans_l2 a1 v2 v9 s.1 s.2) (0, v10)).bind fun v33 => some (v33)).bind fun v34 => some (St.next ((IntKind.i64.wrap (v9 + 1)), v34)) else some (St.done v10))
def m_r_Trans (a1 : List (List Rat)) : Option (List (List Rat)) := (m_r_Right a1).bind fun (v2, v3) => (m_r_Zeros v2 (a1.length : Int)).bind fun v5 => ((Loop (fun (s : Int × (List (List Rat))) => m_r_Trans_l1 a1 v2 s.1 s.2) (0, v5)).bind fun v35 => some (v35)).bind fun v36 => some v36
theorem C_r_Trans {a1 : List (List Rat)} {r37 : List (List Rat)} (h : m_r_Trans a1 = some r37) : CtrG PP 111 [] [slcE (Enc.slice Enc.rq) a1] [] (slcE (Enc.slice Enc.rq) r37) := by
  unfold m_r_Trans at h
  refine .of Go.Proofs.Tryz.func111 rfl (by kernel_rfl) rfl rfl rfl rfl rfl rfl (fun A w0 L b => ?_)
  show Ok PP _ [(0, slcE (Enc.slice Enc.rq) a1)] [] _ _
  refine .reg (.asg rfl <| .nil) rfl ?_
  obtain ⟨⟨v2, v3⟩, e4, h⟩ := bind_some h
  refine .reg (.mv rfl <| .callG (C_r_Right e4) ⟨rfl, trivial⟩ trivial trivial <| .mv rfl <| .ext rfl rfl <| .ext rfl rfl <| .asg rfl <| .asg rfl <| .nil) rfl ?_
  obtain ⟨v5, e6, h⟩ := bind_some h
  refine .reg (.mv rfl <| .mv rfl <| .lnE rfl is_ambleref01_Mat <| .callG (Hi := []) (Ho := [(16, Hp.mat Enc.rq 69 3000016 ([])), (3000016, Hp.store Enc.rq 37 v5)]) (d := D.own 16) (ds := [D.int .i64 v2, D.int .i64 (a1.length : Int)]) (.ren (C_r_Zeros e6) (fun r => match r with | 2000005 => 16 | 4000005 => 3000016 | r => r) (fun r => match r with | 16 => 2000005 | 3000016 => 4000005 | r => r) rfl trivial rfl ⟨.refl rfl, .refl rfl, trivial⟩ ⟨⟨_, rfl, .mat (s := 3000016)⟩, ⟨_, rfl, .refl rfl⟩, trivial⟩ rfl (.own (r := 16)) rfl rfl rfl rfl rfl) ⟨rfl, rfl, trivial⟩ trivial ⟨rfl, rfl, trivial⟩ <| .asg rfl <| .nil) rfl ?_
  obtain ⟨v36, hp8, h⟩ := bind_some h
  refine .cutX (fun i => v36 = i) (fun (i : (List (List Rat))) => [(5, D.own 16)]) (fun (i : (List (List Rat))) => [(16, Hp.mat Enc.rq 69 3000016 ([])), (3000016, Hp.store Enc.rq 37 i)]) ?_ ?_
  · have ho1 := h
    clear h
    have h := hp8
    clear hp8
    refine .reg (.asg rfl <| .nil) rfl ?_
    obtain ⟨o11, hl12, h⟩ := bind_some h
    have ho2 := h
    clear h
    refine .block (.loopL (fun (s : Int × (List (List Rat))) => [(0, slcE (Enc.slice Enc.rq) a1), (3, D.int .i64 v2), (5, D.own 16), (6, D.int .i64 s.1)]) (fun (s : Int × (List (List Rat))) => [(16, Hp.mat Enc.rq 69 3000016 ([])), (3000016, Hp.store Enc.rq 37 s.2)]) hl12 ⟨⟨_, rfl, .refl _⟩, ⟨_, rfl, .refl _⟩, ⟨_, rfl, .refl _⟩, ⟨_, rfl, .refl _⟩, trivial⟩ ⟨⟨_, rfl, .refl _⟩, ⟨_, rfl, .refl _⟩, trivial⟩ rfl rfl ?_)
    rintro ⟨v9, v10⟩ st13 hb14
    have h : m_r_Trans_l1 a1 v2 v9 v10 = some st13 := hb14
    clear hb14
    unfold m_r_Trans_l1 at h
    show Ok PP _ [(0, slcE (Enc.slice Enc.rq) a1), (3, D.int .i64 v2), (5, D.own 16), (6, D.int .i64 v9)] [(16, Hp.mat Enc.rq 69 3000016 ([])), (3000016, Hp.store Enc.rq 37 v10)] _ _
    refine .sq ?_
    refine .reg (.mv rfl <| .mv rfl <| .lnE rfl is_ambleref01_Mat <| .cm rfl rfl rfl <| .nil) rfl ?_
    by_cases c15 : (decide (v9 < (a1.length : Int))) = true
    · replace h := ite_pos_some c15 h
      refine .cTb rfl c15 ?_
      refine .skip (Ok.on ?_)
      obtain ⟨v34, hp17, h⟩ := bind_some h
      refine .cutX (fun i => v34 = i) (fun (i : (List (List Rat))) => [(0, slcE (Enc.slice Enc.rq) a1), (3, D.int .i64 v2), (5, D.own 16), (6, D.int .i64 v9)]) (fun (i : (List (List Rat))) => [(16, Hp.mat Enc.rq 69 3000016 ([])), (3000016, Hp.store Enc.rq 37 i)]) ?_ ?_
      · have ho3 := h
        clear h
        have h := hp17
        clear hp17
        refine .block ?_
        refine .reg (.asg rfl <| .nil) rfl ?_
        obtain ⟨o20, hl21, h⟩ := bind_some h
        have ho4 := h
        clear h
        refine .block (.loopL (fun (s : Int × (List (List Rat))) => [(0, slcE (Enc.slice Enc.rq) a1), (3, D.int .i64 v2), (5, D.own 16), (6, D.int .i64 v9), (7, D.int .i64 s.1)]) (fun (s : Int × (List (List Rat))) => [(16, Hp.mat Enc.rq 69 3000016 ([])), (3000016, Hp.store Enc.rq 37 s.2)]) hl21 ⟨⟨_, rfl, .refl _⟩, ⟨_, rfl, .refl _⟩, ⟨_, rfl, .refl _⟩, ⟨_, rfl, .refl _⟩, ⟨_, rfl, .refl _⟩, trivial⟩ ⟨⟨_, rfl, .refl _⟩, ⟨_, rfl, .refl _⟩, trivial⟩ rfl rfl ?_)
        rintro ⟨v18, v19⟩ st22 hb23
        have h : m_r_Trans_l2 a1 v2 v9 v18 v19 = some st22 := hb23
        clear hb23
        unfold m_r_Trans_l2 at h
        show Ok PP _ [(0, slcE (Enc.slice Enc.rq) a1), (3, D.int .i64 v2), (5, D.own 16), (6, D.int .i64 v9), (7, D.int .i64 v18)] [(16, Hp.mat Enc.rq 69 3000016 ([])), (3000016, Hp.store Enc.rq 37 v19)] _ _
        refine .sq ?_
        refine .reg (.mv rfl <| .mv rfl <| .cm rfl rfl rfl <| .nil) rfl ?_
        by_cases c24 : (decide (v18 < v2)) = true
        · replace h := ite_pos_some c24 h
          refine .cTb rfl c24 ?_
          refine .skip (Ok.on ?_)
          refine .sq ?_
          refine .block ?_
          refine .slM0 5 rfl rfl rfl ?_
          obtain ⟨v25, e26, h⟩ := bind_some h
          obtain ⟨v27, e28, h⟩ := bind_some h
          obtain ⟨v29, e30, h⟩ := bind_some h
          obtain ⟨v31, e32, h⟩ := bind_some h
          refine .regionD hmix (.mv rfl <| .mv rfl <| .ixR rfl rfl se_ambleref01_Mat (ix_some e26).1 (by have := ix_lt e26; have := (ix_some e26).1; (try simp only [List.length_set] at *); omega) <| .ldM (ix_lt e26) rfl rfl rfl rfl ly_Lambleref01_Q <| .mv rfl <| .mv rfl <| .mv rfl <| .ixE rfl rfl se_ambleref01_Mat (ix_some e28).1 (ix_some e28).2 <| .lp1 rfl ly_Lambleref01_Q <| .mv rfl <| .ixE rfl rfl se_Lambleref01_Q (ix_some e30).1 (ix_some e30).2 <| .lpE (l := rqC (v29)) rfl ly_ambleref01_Q rfl <| .ixM rfl rfl rfl (ix_some e26).2 se_Lambleref01_Q (ix_some e32).1 (by have := ix_lt e32; have := (ix_some e32).1; omega) rfl <| .stMc v29 rfl rfl rfl (ix_some e26).2 (ix_lt e32) ly_ambleref01_Q rfl rfl rfl <| .nil) rfl (by kernel_rfl) (Ok.on ?_)
          refine .region (.mv rfl <| .ar rfl rfl rfl <| .asg rfl <| .nil) rfl (fun _ _ hs => ⟨((IntKind.i64.wrap (v18 + 1)), (v19.set v18.toNat (v25.set v9.toNat v29))), (Option.some.inj h).symm, hs.sub ⟨⟨_, rfl, .refl _⟩, ⟨_, rfl, .refl _⟩, ⟨_, rfl, .sl⟩, ⟨_, rfl, .refl _⟩, ⟨_, rfl, .refl _⟩, trivial⟩ ⟨⟨_, rfl, .refl _⟩, ⟨_, rfl, .refl _⟩, trivial⟩ rfl rfl⟩)
        · replace h := ite_neg_some c24 h
          refine .cFb rfl c24 ?_
          refine .exit (fun a w hs => ⟨_, (Option.some.inj h).symm, fun e => by subst e; have h := ho4; exact blk_exit (⟨v19, (Option.some.inj h).symm, hs.sub ⟨⟨_, rfl, .refl _⟩, ⟨_, rfl, .refl _⟩, ⟨_, rfl, .refl _⟩, ⟨_, rfl, .refl _⟩, trivial⟩ ⟨⟨_, rfl, .refl _⟩, ⟨_, rfl, .refl _⟩, trivial⟩ rfl rfl⟩)⟩)
      · rintro _ rfl
        show Ok PP _ [(0, slcE (Enc.slice Enc.rq) a1), (3, D.int .i64 v2), (5, D.own 16), (6, D.int .i64 v9)] [(16, Hp.mat Enc.rq 69 3000016 ([])), (3000016, Hp.store Enc.rq 37 v34)] _ _
        refine .region (.mv rfl <| .ar rfl rfl rfl <| .asg rfl <| .nil) rfl (fun _ _ hs => ⟨((IntKind.i64.wrap (v9 + 1)), v34), (Option.some.inj h).symm, hs.sub ⟨⟨_, rfl, .refl _⟩, ⟨_, rfl, .refl _⟩, ⟨_, rfl, .refl _⟩, ⟨_, rfl, .refl _⟩, trivial⟩ ⟨⟨_, rfl, .refl _⟩, ⟨_, rfl, .refl _⟩, trivial⟩ rfl rfl⟩)
    · replace h := ite_neg_some c15 h
      refine .cFb rfl c15 ?_
      refine .exit (fun a w hs => ⟨_, (Option.some.inj h).symm, fun e => by subst e; have h := ho2; exact blk_exit (⟨v10, (Option.some.inj h).symm, hs.sub ⟨⟨_, rfl, .refl _⟩, trivial⟩ ⟨⟨_, rfl, .refl _⟩, ⟨_, rfl, .refl _⟩, trivial⟩ rfl rfl⟩)⟩)
  · rintro _ rfl
    show Ok PP _ [(5, D.own 16)] [(16, Hp.mat Enc.rq 69 3000016 ([])), (3000016, Hp.store Enc.rq 37 v36)] _ _
    refine .slM0 5 rfl rfl rfl ?_
    refine .reg (.mv rfl <| .asg rfl <| .nil) rfl ?_
    refine .leT 2 (.own 16) rfl .sl ?_
    refine .giveM 2 rfl rfl rfl rfl rfl ?_
    cases h
    refine .retG (fun _ _ hb => hb) rfl (.cons (.tmp rfl) .nil) (.refl _) trivial trivial
def m_r_Apply_l1 (a1 : List (List Rat)) (a2 : List Rat) (v5 : Int) (v6 : List Rat) : Option (St (Int × (List Rat)) (List Rat)) := (if (decide (v5 < (a1.length : Int))) = true then (ix a1 v5).bind fun v12 => (m_r_DotRow v12 a2).bind fun v14 => must ((v6.length + ([v14]).length) * 64 ≤ 140737488355328 ∧ v6.length + ([v14]).length ≤ 9223372036854775807) (some (St.next ((IntKind.i64.wrap (v5 + 1)), (v6 ++ [v14])))) else some (St.done v6))
def m_r_Apply (a1 : List (List Rat)) (a2 : List Rat) : Option (List Rat) := ((Loop (fun (s : Int × (List Rat)) => m_r_Apply_l1 a1 a2 s.1 s.2) (0, [])).bind fun v17 => some (v17)).bind fun v18 => some v18
theorem C_r_Apply {a1 : List (List Rat)} {a2 : List Rat} {r19 : List Rat} (h : m_r_Apply a1 a2 = some r19) : CtrG PP 113 [] [slcE (Enc.slice Enc.rq) a1, slcE Enc.rq a2] [] (slcE Enc.rq r19) := by
  unfold m_r_Apply at h
  refine .of Go.Proofs.Tryz.func113 rfl (by kernel_rfl) rfl rfl rfl rfl rfl rfl (fun A w0 L b => ?_)
  show Ok PP _ [(0, slcE (Enc.slice Enc.rq) a1), (1, slcE Enc.rq a2)] [] _ _
  refine .reg (.asg rfl <| .nil) rfl ?_
  refine .reg (.asg rfl <| .nil) rfl ?_
  obtain ⟨v18, hp4, h⟩ := bind_some h
  refine .cutX (fun i => v18 = i) (fun (i : (List Rat)) => [(5, D.own 2000005)]) (fun (i : (List Rat)) => [(2000005, rowE Enc.rq 37 i)]) ?_ ?_
  · have ho1 := h
    clear h
    have h := hp4
    clear hp4
    refine .reg (.asg rfl <| .nil) rfl ?_
    refine .nilE Enc.rq 5 2000005 37 rfl rfl ?_
    obtain ⟨o7, hl8, h⟩ := bind_some h
    have ho2 := h
    clear h
    refine .block (.loopL (fun (s : Int × (List Rat)) => [(0, slcE (Enc.slice Enc.rq) a1), (1, slcE Enc.rq a2), (5, D.own 2000005), (6, D.int .i64 s.1)]) (fun (s : Int × (List Rat)) => [(2000005, rowE Enc.rq 37 s.2)]) hl8 ⟨⟨_, rfl, .refl _⟩, ⟨_, rfl, .refl _⟩, ⟨_, rfl, .refl _⟩, ⟨_, rfl, .refl _⟩, trivial⟩ ⟨⟨_, rfl, .refl _⟩, trivial⟩ rfl rfl ?_)
    rintro ⟨v5, v6⟩ st9 hb10
    have h : m_r_Apply_l1 a1 a2 v5 v6 = some st9 := hb10
    clear hb10
    unfold m_r_Apply_l1 at h
    show Ok PP _ [(0, slcE (Enc.slice Enc.rq) a1), (1, slcE Enc.rq a2), (5, D.own 2000005), (6, D.int .i64 v5)] [(2000005, rowE Enc.rq 37 v6)] _ _
    refine .sq ?_
    refine .reg (.mv rfl <| .mv rfl <| .lnE rfl is_ambleref01_Mat <| .cm rfl rfl rfl <| .nil) rfl ?_
    by_cases c11 : (decide (v5 < (a1.length : Int))) = true
    · replace h := ite_pos_some c11 h
      refine .cTb rfl c11 ?_
      refine .skip (Ok.on ?_)
      refine .sq ?_
      refine .block ?_
      refine .sl 5 rfl rfl rfl ?_
      obtain ⟨v12, e13, h⟩ := bind_some h
      obtain ⟨v14, e15, h⟩ := bind_some h
      obtain ⟨k16, h⟩ := must_some h
      refine .region (.mv rfl <| .mv rfl <| .mv rfl <| .ixE rfl rfl se_ambleref01_Mat (ix_some e13).1 (ix_some e13).2 <| .lp1 rfl ly_Lambleref01_Q <| .mv rfl <| .callG (C_r_DotRow e15) ⟨rfl, rfl, trivial⟩ trivial trivial <| .blQ (e := Enc.rq) [v14] [(0, _, rqD v14, rqC (v14))] mk_Lambleref01_Q rfl rfl rfl ⟨rfl, rfl, .agg _, rfl, trivial⟩ ⟨rfl, trivial⟩ rfl rfl <| .apD (ys := [v14]) rfl .sl rfl (.refl _) rfl mk_Lambleref01_Q rfl k16.1 k16.2 rfl <| .asg rfl <| .nil) rfl (Ok.on ?_)
      refine .region (.mv rfl <| .ar rfl rfl rfl <| .asg rfl <| .nil) rfl (fun _ _ hs => ⟨((IntKind.i64.wrap (v5 + 1)), (v6 ++ [v14])), (Option.some.inj h).symm, hs.subR (fun r => match r with | 2000005 => 21 | r => r) ⟨⟨_, rfl, .refl rfl⟩, ⟨_, rfl, .refl rfl⟩, ⟨_, rfl, .own (r := 2000005)⟩, ⟨_, rfl, .refl rfl⟩, trivial⟩ ⟨⟨_, rfl, .refl rfl⟩, trivial⟩ rfl rfl rfl⟩)
    · replace h := ite_neg_some c11 h
      refine .cFb rfl c11 ?_
      refine .exit (fun a w hs => ⟨_, (Option.some.inj h).symm, fun e => by subst e; have h := ho2; exact blk_exit (⟨v6, (Option.some.inj h).symm, hs.sub ⟨⟨_, rfl, .refl _⟩, trivial⟩ ⟨⟨_, rfl, .refl _⟩, trivial⟩ rfl rfl⟩)⟩)
  · rintro _ rfl
    show Ok PP _ [(5, D.own 2000005)] [(2000005, rowE Enc.rq 37 v18)] _ _
    refine .sl 5 rfl rfl rfl ?_
    refine .reg (.mv rfl <| .asg rfl <| .nil) rfl ?_
    refine .leT 4 (.own 2000005) rfl .sl ?_
    refine .giveE 4 rfl rfl rfl ?_
    cases h
    refine .retG (fun _ _ hb => hb) rfl (.cons (.tmp rfl) .nil) (.refl _) trivial trivial
def m_r_MulMat_l3 (a1 : List (List Rat)) (a2 : List (List Rat)) (v10 : Int) (v19 : Int) (v28 : Int) (v29 : List (List Rat)) : Option (St (Int × (List (List Rat))) (List (List Rat))) := (if (decide (v28 < (a2.length : Int))) = true then (ix v29 v10).bind fun v35 => (ix v29 v10).bind fun v37 => (ix v37 v19).bind fun v39 => (ix a1 v10).bind fun v41 => (ix v41 v28).bind fun v43 => (ix a2 v28).bind fun v45 => (ix v45 v19).bind fun v47 => (q_mul v43 v47).bind fun v49 => (q_add v39 v49).bind fun v51 => (ix v35 v19).bind fun v53 => some (St.next ((IntKind.i64.wrap (v28 + 1)), (v29.set v10.toNat (v35.set v19.toNat v51)))) else some (St.done v29))
def m_r_MulMat_l2 (a1 : List (List Rat)) (a2 : List (List Rat)) (v3 : Int) (v10 : Int) (v19 : Int) (v20 : List (List Rat)) : Option (St (Int × (List (List Rat))) (List (List Rat))) := (if (decide (v19 < v3)) = true then ((Loop (fun (s : Int × (List (List Rat))) => m_r_MulMat_l3 a1 a2 v10 v19 s.1 s.2) (0, v20)).bind fun v55 => some (v55)).bind fun v56 => some (St.next ((IntKind.i64.wrap (v19 + 1)), v56)) else some (St.done v20))
def m_r_MulMat_l1 (a1 : List (List Rat)) (a2 : List (List Rat)) (v3 : Int) (v10 : Int) (v11 : List (List Rat)) : Option (St (Int × (List (List Rat))) (List (List Rat))) := (if (decide (v10 < (a1.length : Int))) = true then ((Loop (fun (s : Int × (List (List Rat))) => m_r_MulMat_l2 a1 a2 v3 v10 s.1 s.2) (0, v11)).bind fun v57 => some (v57)).bind fun v58 => some (St.next ((IntKind.i64.wrap (v10 + 1)), v58)) else some (St.done v11))
def m_r_MulMat (a1 : List (List Rat)) (a2 : List (List Rat)) : Option (List (List Rat)) := (m_r_Right a2).bind fun (v3, v4) => (m_r_Zeros (a1.length : Int) v3).bind fun v6 => ((Loop (fun (s : Int × (List (List Rat))) => m_r_MulMat_l1 a1 a2 v3 s.1 s.2) (0, v6)).bind fun v59 => some (v59)).bind fun v60 => some v60
theorem C_r_MulMat {a1 : List (List Rat)} {a2 : List (List Rat)} {r61 : List (List Rat)} (h : m_r_MulMat a1 a2 = some r61) : CtrG PP 114 [] [slcE (Enc.slice Enc.rq) a1, slcE (Enc.slice Enc.rq) a2] [] (slcE (Enc.slice Enc.rq) r61) := by
  unfold m_r_MulMat at h
  refine .of Go.Proofs.Tryz.func114 rfl (by kernel_rfl) rfl rfl rfl rfl rfl rfl (fun A w0 L b => ?_)
  show Ok PP _ [(0, slcE (Enc.slice Enc.rq) a1), (1, slcE (Enc.slice Enc.rq) a2)] [] _ _
  refine .reg (.asg rfl <| .nil) rfl ?_
  obtain ⟨⟨v3, v4⟩, e5, h⟩ := bind_some h
  refine .reg (.mv rfl <| .callG (C_r_Right e5) ⟨rfl, trivial⟩ trivial trivial <| .mv rfl <| .ext rfl rfl <| .ext rfl rfl <| .asg rfl <| .asg rfl <| .nil) rfl ?_
  obtain ⟨v6, e7, h⟩ := bind_some h
  refine .reg (.mv rfl <| .lnE rfl is_ambleref01_Mat <| .mv rfl <| .callG (Hi := []) (Ho := [(19, Hp.mat Enc.rq 69 3000019 ([])), (3000019, Hp.store Enc.rq 37 v6)]) (d := D.own 19) (ds := [D.int .i64 (a1.length : Int), D.int .i64 v3]) (.ren (C_r_Zeros e7) (fun r => match r with | 2000005 => 19 | 4000005 => 3000019 | r => r) (fun r => match r with | 19 => 2000005 | 3000019 => 4000005 | r => r) rfl trivial rfl ⟨.refl rfl, .refl rfl, trivial⟩ ⟨⟨_, rfl, .mat (s := 3000019)⟩, ⟨_, rfl, .refl rfl⟩, trivial⟩ rfl (.own (r := 19)) rfl rfl rfl rfl rfl) ⟨rfl, rfl, trivial⟩ trivial ⟨rfl, rfl, trivial⟩ <| .asg rfl <| .nil) rfl ?_
  obtain ⟨v60, hp9, h⟩ := bind_some h
  refine .cutX (fun i => v60 = i) (fun (i : (List (List Rat))) => [(7, D.own 19)]) (fun (i : (List (List Rat))) => [(19, Hp.mat Enc.rq 69 3000019 ([])), (3000019, Hp.store Enc.rq 37 i)]) ?_ ?_
  · have ho1 := h
    clear h
    have h := hp9
    clear hp9
    refine .reg (.asg rfl <| .nil) rfl ?_
    obtain ⟨o12, hl13, h⟩ := bind_some h
    have ho2 := h
    clear h
    refine .block (.loopL (fun (s : Int × (List (List Rat))) => [(0, slcE (Enc.slice Enc.rq) a1), (1, slcE (Enc.slice Enc.rq) a2), (5, D.int .i64 v3), (7, D.own 19), (8, D.int .i64 s.1)]) (fun (s : Int × (List (List Rat))) => [(19, Hp.mat Enc.rq 69 3000019 ([])), (3000019, Hp.store Enc.rq 37 s.2)]) hl13 ⟨⟨_, rfl, .refl _⟩, ⟨_, rfl, .refl _⟩, ⟨_, rfl, .refl _⟩, ⟨_, rfl, .refl _⟩, ⟨_, rfl, .refl _⟩, trivial⟩ ⟨⟨_, rfl, .refl _⟩, ⟨_, rfl, .refl _⟩, trivial⟩ rfl rfl ?_)
    rintro ⟨v10, v11⟩ st14 hb15
    have h : m_r_MulMat_l1 a1 a2 v3 v10 v11 = some st14 := hb15
    clear hb15
    unfold m_r_MulMat_l1 at h
    show Ok PP _ [(0, slcE (Enc.slice Enc.rq) a1), (1, slcE (Enc.slice Enc.rq) a2), (5, D.int .i64 v3), (7, D.own 19), (8, D.int .i64 v10)] [(19, Hp.mat Enc.rq 69 3000019 ([])), (3000019, Hp.store Enc.rq 37 v11)] _ _
    refine .sq ?_
    refine .reg (.mv rfl <| .mv rfl <| .lnE rfl is_ambleref01_Mat <| .cm rfl rfl rfl <| .nil) rfl ?_
    by_cases c16 : (decide (v10 < (a1.length : Int))) = true
    · replace h := ite_pos_some c16 h
      refine .cTb rfl c16 ?_
      refine .skip (Ok.on ?_)
      obtain ⟨v58, hp18, h⟩ := bind_some h
      refine .cutX (fun i => v58 = i) (fun (i : (List (List Rat))) => [(0, slcE (Enc.slice Enc.rq) a1), (1, slcE (Enc.slice Enc.rq) a2), (5, D.int .i64 v3), (7, D.own 19), (8, D.int .i64 v10)]) (fun (i : (List (List Rat))) => [(19, Hp.mat Enc.rq 69 3000019 ([])), (3000019, Hp.store Enc.rq 37 i)]) ?_ ?_
      · have ho3 := h
        clear h
        have h := hp18
        clear hp18
        refine .block ?_
        refine .reg (.asg rfl <| .nil) rfl ?_
        obtain ⟨o21, hl22, h⟩ := bind_some h
        have ho4 := h
        clear h
        refine .block (.loopL (fun (s : Int × (List (List Rat))) => [(0, slcE (Enc.slice Enc.rq) a1), (1, slcE (Enc.slice Enc.rq) a2), (5, D.int .i64 v3), (7, D.own 19), (8, D.int .i64 v10), (9, D.int .i64 s.1)]) (fun (s : Int × (List (List Rat))) => [(19, Hp.mat Enc.rq 69 3000019 ([])), (3000019, Hp.store Enc.rq 37 s.2)]) hl22 ⟨⟨_, rfl, .refl _⟩, ⟨_, rfl, .refl _⟩, ⟨_, rfl, .refl _⟩, ⟨_, rfl, .refl _⟩, ⟨_, rfl, .refl _⟩, ⟨_, rfl, .refl _⟩, trivial⟩ ⟨⟨_, rfl, .refl _⟩, ⟨_, rfl, .refl _⟩, trivial⟩ rfl rfl ?_)
        rintro ⟨v19, v20⟩ st23 hb24
        have h : m_r_MulMat_l2 a1 a2 v3 v10 v19 v20 = some st23 := hb24
        clear hb24
        unfold m_r_MulMat_l2 at h
        show Ok PP _ [(0, slcE (Enc.slice Enc.rq) a1), (1, slcE (Enc.slice Enc.rq) a2), (5, D.int .i64 v3), (7, D.own 19), (8, D.int .i64 v10), (9, D.int .i64 v19)] [(19, Hp.mat Enc.rq 69 3000019 ([])), (3000019, Hp.store Enc.rq 37 v20)] _ _
        refine .sq ?_
        refine .reg (.mv rfl <| .mv rfl <| .cm rfl rfl rfl <| .nil) rfl ?_
        by_cases c25 : (decide (v19 < v3)) = true
        · replace h := ite_pos_some c25 h
          refine .cTb rfl c25 ?_
          refine .skip (Ok.on ?_)
          obtain ⟨v56, hp27, h⟩ := bind_some h
          refine .cutX (fun i => v56 = i) (fun (i : (List (List Rat))) => [(0, slcE (Enc.slice Enc.rq) a1), (1, slcE (Enc.slice Enc.rq) a2), (5, D.int .i64 v3), (7, D.own 19), (8, D.int .i64 v10), (9, D.int .i64 v19)]) (fun (i : (List (List Rat))) => [(19, Hp.mat Enc.rq 69 3000019 ([])), (3000019, Hp.store Enc.rq 37 i)]) ?_ ?_
          · have ho5 := h
            clear h
            have h := hp27
            clear hp27
            refine .block ?_
            refine .reg (.asg rfl <| .nil) rfl ?_
            obtain ⟨o30, hl31, h⟩ := bind_some h
            have ho6 := h
            clear h
            refine .block (.loopL (fun (s : Int × (List (List Rat))) => [(0, slcE (Enc.slice Enc.rq) a1), (1, slcE (Enc.slice Enc.rq) a2), (5, D.int .i64 v3), (7, D.own 19), (8, D.int .i64 v10), (9, D.int .i64 v19), (10, D.int .i64 s.1)]) (fun (s : Int × (List (List Rat))) => [(19, Hp.mat Enc.rq 69 3000019 ([])), (3000019, Hp.store Enc.rq 37 s.2)]) hl31 ⟨⟨_, rfl, .refl _⟩, ⟨_, rfl, .refl _⟩, ⟨_, rfl, .refl _⟩, ⟨_, rfl, .refl _⟩, ⟨_, rfl, .refl _⟩, ⟨_, rfl, .refl _⟩, ⟨_, rfl, .refl _⟩, trivial⟩ ⟨⟨_, rfl, .refl _⟩, ⟨_, rfl, .refl _⟩, trivial⟩ rfl rfl ?_)
            rintro ⟨v28, v29⟩ st32 hb33
            have h : m_r_MulMat_l3 a1 a2 v10 v19 v28 v29 = some st32 := hb33
            clear hb33
            unfold m_r_MulMat_l3 at h
            show Ok PP _ [(0, slcE (Enc.slice Enc.rq) a1), (1, slcE (Enc.slice Enc.rq) a2), (5, D.int .i64 v3), (7, D.own 19), (8, D.int .i64 v10), (9, D.int .i64 v19), (10, D.int .i64 v28)] [(19, Hp.mat Enc.rq 69 3000019 ([])), (3000019, Hp.store Enc.rq 37 v29)] _ _
            refine .sq ?_
            refine .reg (.mv rfl <| .mv rfl <| .lnE rfl is_ambleref01_Mat <| .cm rfl rfl rfl <| .nil) rfl ?_
            by_cases c34 : (decide (v28 < (a2.length : Int))) = true
            · replace h := ite_pos_some c34 h
              refine .cTb rfl c34 ?_
              refine .skip (Ok.on ?_)
              refine .sq ?_
              refine .block ?_
              refine .slM0 7 rfl rfl rfl ?_
              obtain ⟨v35, e36, h⟩ := bind_some h
              obtain ⟨v37, e38, h⟩ := bind_some h
              obtain ⟨v39, e40, h⟩ := bind_some h
              obtain ⟨v41, e42, h⟩ := bind_some h
              obtain ⟨v43, e44, h⟩ := bind_some h
              obtain ⟨v45, e46, h⟩ := bind_some h
              obtain ⟨v47, e48, h⟩ := bind_some h
              obtain ⟨v49, e50, h⟩ := bind_some h
              obtain ⟨v51, e52, h⟩ := bind_some h
              obtain ⟨v53, e54, h⟩ := bind_some h
              refine .regionD hmix (.mv rfl <| .mv rfl <| .ixR rfl rfl se_ambleref01_Mat (ix_some e36).1 (by have := ix_lt e36; have := (ix_some e36).1; (try simp only [List.length_set] at *); omega) <| .ldM (ix_lt e36) rfl rfl rfl rfl ly_Lambleref01_Q <| .mv rfl <| .mv rfl <| .mv rfl <| .ixR rfl rfl se_ambleref01_Mat (ix_some e38).1 (by have := ix_lt e38; have := (ix_some e38).1; (try simp only [List.length_set] at *); omega) <| .ldM (ix_lt e38) rfl rfl rfl rfl ly_Lambleref01_Q <| .mv rfl <| .ixM rfl rfl rfl (ix_some e38).2 se_Lambleref01_Q (ix_some e40).1 (by have := ix_lt e40; have := (ix_some e40).1; omega) rfl <| .ldMc rfl rfl (ix_some e38).2 (ix_some e40).2 ly_ambleref01_Q rfl rfl <| .mv rfl <| .mv rfl <| .ixE rfl rfl se_ambleref01_Mat (ix_some e42).1 (ix_some e42).2 <| .lp1 rfl ly_Lambleref01_Q <| .mv rfl <| .ixE rfl rfl se_Lambleref01_Q (ix_some e44).1 (ix_some e44).2 <| .lpE (l := rqC (v43)) rfl ly_ambleref01_Q rfl <| .mv rfl <| .mv rfl <| .ixE rfl rfl se_ambleref01_Mat (ix_some e46).1 (ix_some e46).2 <| .lp1 rfl ly_Lambleref01_Q <| .mv rfl <| .ixE rfl rfl se_Lambleref01_Q (ix_some e48).1 (ix_some e48).2 <| .lpE (l := rqC (v47)) rfl ly_ambleref01_Q rfl <| .callG (R_mul e50) ⟨rfl, rfl, trivial⟩ trivial trivial <| .callG (R_add e52) ⟨rfl, rfl, trivial⟩ trivial trivial <| .ixM rfl rfl rfl (ix_some e36).2 se_Lambleref01_Q (ix_some e54).1 (by have := ix_lt e54; have := (ix_some e54).1; omega) rfl <| .stMc v51 rfl rfl rfl (ix_some e36).2 (ix_lt e54) ly_ambleref01_Q rfl rfl rfl <| .nil) rfl (by kernel_rfl) (Ok.on ?_)
              refine .region (.mv rfl <| .ar rfl rfl rfl <| .asg rfl <| .nil) rfl (fun _ _ hs => ⟨((IntKind.i64.wrap (v28 + 1)), (v29.set v10.toNat (v35.set v19.toNat v51))), (Option.some.inj h).symm, hs.sub ⟨⟨_, rfl, .refl _⟩, ⟨_, rfl, .refl _⟩, ⟨_, rfl, .refl _⟩, ⟨_, rfl, .sl⟩, ⟨_, rfl, .refl _⟩, ⟨_, rfl, .refl _⟩, ⟨_, rfl, .refl _⟩, trivial⟩ ⟨⟨_, rfl, .refl _⟩, ⟨_, rfl, .refl _⟩, trivial⟩ rfl rfl⟩)
            · replace h := ite_neg_some c34 h
              refine .cFb rfl c34 ?_
              refine .exit (fun a w hs => ⟨_, (Option.some.inj h).symm, fun e => by subst e; have h := ho6; exact blk_exit (⟨v29, (Option.some.inj h).symm, hs.sub ⟨⟨_, rfl, .refl _⟩, ⟨_, rfl, .refl _⟩, ⟨_, rfl, .refl _⟩, ⟨_, rfl, .refl _⟩, ⟨_, rfl, .refl _⟩, ⟨_, rfl, .refl _⟩, trivial⟩ ⟨⟨_, rfl, .refl _⟩, ⟨_, rfl, .refl _⟩, trivial⟩ rfl rfl⟩)⟩)
          · rintro _ rfl
            show Ok PP _ [(0, slcE (Enc.slice Enc.rq) a1), (1, slcE (Enc.slice Enc.rq) a2), (5, D.int .i64 v3), (7, D.own 19), (8, D.int .i64 v10), (9, D.int .i64 v19)] [(19, Hp.mat Enc.rq 69 3000019 ([])), (3000019, Hp.store Enc.rq 37 v56)] _ _
            refine .region (.mv rfl <| .ar rfl rfl rfl <| .asg rfl <| .nil) rfl (fun _ _ hs => ⟨((IntKind.i64.wrap (v19 + 1)), v56), (Option.some.inj h).symm, hs.sub ⟨⟨_, rfl, .refl _⟩, ⟨_, rfl, .refl _⟩, ⟨_, rfl, .refl _⟩, ⟨_, rfl, .refl _⟩, ⟨_, rfl, .refl _⟩, ⟨_, rfl, .refl _⟩, trivial⟩ ⟨⟨_, rfl, .refl _⟩, ⟨_, rfl, .refl _⟩, trivial⟩ rfl rfl⟩)
        · replace h := ite_neg_some c25 h
          refine .cFb rfl c25 ?_
          refine .exit (fun a w hs => ⟨_, (Option.some.inj h).symm, fun e => by subst e; have h := ho4; exact blk_exit (⟨v20, (Option.some.inj h).symm, hs.sub ⟨⟨_, rfl, .refl _⟩, ⟨_, rfl, .refl _⟩, ⟨_, rfl, .refl _⟩, ⟨_, rfl, .refl _⟩, ⟨_, rfl, .refl _⟩, trivial⟩ ⟨⟨_, rfl, .refl _⟩, ⟨_, rfl, .refl _⟩, trivial⟩ rfl rfl⟩)⟩)
      · rintro _ rfl
        show Ok PP _ [(0, slcE (Enc.slice Enc.rq) a1), (1, slcE (Enc.slice Enc.rq) a2), (5, D.int .i64 v3), (7, D.own 19), (8, D.int .i64 v10)] [(19, Hp.mat Enc.rq 69 3000019 ([])), (3000019, Hp.store Enc.rq 37 v58)] _ _
        refine .region (.mv rfl <| .ar rfl rfl rfl <| .asg rfl <| .nil) rfl (fun _ _ hs => ⟨((IntKind.i64.wrap (v10 + 1)), v58), (Option.some.inj h).symm, hs.sub ⟨⟨_, rfl, .refl _⟩, ⟨_, rfl, .refl _⟩, ⟨_, rfl, .refl _⟩, ⟨_, rfl, .refl _⟩, ⟨_, rfl, .refl _⟩, trivial⟩ ⟨⟨_, rfl, .refl _⟩, ⟨_, rfl, .refl _⟩, trivial⟩ rfl rfl⟩)
    · replace h := ite_neg_some c16 h
      refine .cFb rfl c16 ?_
      refine .exit (fun a w hs => ⟨_, (Option.some.inj h).symm, fun e => by subst e; have h := ho2; exact blk_exit (⟨v11, (Option.some.inj h).symm, hs.sub ⟨⟨_, rfl, .refl _⟩, trivial⟩ ⟨⟨_, rfl, .refl _⟩, ⟨_, rfl, .refl _⟩, trivial⟩ rfl rfl⟩)⟩)
  · rintro _ rfl
    show Ok PP _ [(7, D.own 19)] [(19, Hp.mat Enc.rq 69 3000019 ([])), (3000019, Hp.store Enc.rq 37 v60)] _ _
    refine .slM0 7 rfl rfl rfl ?_
    refine .reg (.mv rfl <| .asg rfl <| .nil) rfl ?_
    refine .leT 4 (.own 19) rfl .sl ?_
    refine .giveM 4 rfl rfl rfl rfl rfl ?_
    cases h
    refine .retG (fun _ _ hb => hb) rfl (.cons (.tmp rfl) .nil) (.refl _) trivial trivial
end
end Go.Am
namespace Go.Am
open Go.RowKit
set_option maxRecDepth 100000
noncomputable section
def m_Mat_size_1 (a1 : List Rat) (a2 : Int) : Option Bool := some ((a1.length : Int) != a2)
theorem C_Mat_size_1 {a1 : List Rat} {a2 : Int} {r3 : Bool} (h : m_Mat_size_1 a1 a2 = some r3) : CtrG PP 234 [(1, Hp.box 3 ([D.int .i64 a2]))] [slcE Enc.rat a1, D.ref 1 0] [(1, Hp.box 3 ([D.int .i64 a2]))] (D.bool r3) := by
  unfold m_Mat_size_1 at h
  refine .of Go.Proofs.Tryz.func234 rfl (by kernel_rfl) rfl rfl rfl rfl rfl rfl (fun A w0 L b => ?_)
  show Ok PP _ [(0, slcE Enc.rat a1), (1, D.ref 1 0), (1000001, D.pinned 1 (b 1))] [(1, Hp.box 3 ([D.int .i64 a2]))] _ _
  refine .reg (.asg rfl <| .nil) rfl ?_
  refine .reg (.mv rfl <| .lnE rfl is_Lexact_Q <| .ldE1 (D.int .i64 a2) rfl rfl ly_int rfl <| .cm rfl rfl rfl <| .asg rfl <| .nil) rfl ?_
  cases h
  refine .retG (fun _ _ hb => hb) rfl (.cons (.tmp rfl) .nil) (.refl _) ⟨⟨_, rfl, .refl _⟩, trivial⟩ ⟨⟨_, rfl, .refl _⟩, trivial⟩
def m_IndexFunc_size_l1 (a1 : List (List Rat)) (a2 : Int) (v5 : Int) : Option (St Int (Ex Unit Int)) := (if (decide (v5 < (a1.length : Int))) = true then (ix a1 v5).bind fun v11 => (m_Mat_size_1 v11 a2).bind fun v13 => (if v13 = true then some (St.done (Ex.ret v5)) else some (St.next (IntKind.i64.wrap (v5 + 1)))) else some (St.done (Ex.brk ())))
def m_IndexFunc_size (a1 : List (List Rat)) (a2 : Int) : Option Int := ((Loop (fun (s : Int) => m_IndexFunc_size_l1 a1 a2 s) 0).bind fun o6 => (match o6 with | Ex.brk () => some (Ex.brk ()) | Ex.ret r16 => some (Ex.ret r16))).bind fun o3 => (match o3 with | Ex.brk () => some (-1) | Ex.ret r17 => some r17)
theorem C_IndexFunc_size {a1 : List (List Rat)} {a2 : Int} {r18 : Int} (h : m_IndexFunc_size a1 a2 = some r18) : CtrG PP 253 [(610, Hp.box 3 ([D.int .i64 a2]))] [slcE (Enc.slice Enc.rat) a1, D.clo 234 [] [D.ref 610 0]] [(610, Hp.box 3 ([D.int .i64 a2]))] (D.int .i64 r18) := by
  unfold m_IndexFunc_size at h
  refine .of Go.Proofs.Tryz.func253 rfl (by kernel_rfl) rfl rfl rfl rfl rfl rfl (fun A w0 L b => ?_)
  show Ok PP _ [(0, slcE (Enc.slice Enc.rat) a1), (1, D.clo 234 [] [D.ref 610 0]), (1000610, D.pinned 610 (b 610))] [(610, Hp.box 3 ([D.int .i64 a2]))] _ _
  refine .reg (.asg rfl <| .nil) rfl ?_
  obtain ⟨o3, hp4, h⟩ := bind_some h
  refine .cutX (fun i => o3 = Ex.brk i) (fun (i : Unit) => [(1000610, D.pinned 610 (b 610))]) (fun (i : Unit) => [(610, Hp.box 3 ([D.int .i64 a2]))]) ?_ ?_
  · have ho1 := h
    clear h
    have h := hp4
    clear hp4
    refine .reg (.mv rfl <| .lnE rfl is_exact_Mat <| .mv rfl <| .nil) rfl ?_
    obtain ⟨o6, hl7, h⟩ := bind_some h
    have ho2 := h
    clear h
    refine .block (.loopL (fun (s : Int) => [(0, slcE (Enc.slice Enc.rat) a1), (1, D.clo 234 [] [D.ref 610 0]), (7, D.int .i64 (a1.length : Int)), (8, D.int .i64 s), (1000610, D.pinned 610 (b 610))]) (fun (s : Int) => [(610, Hp.box 3 ([D.int .i64 a2]))]) hl7 ⟨⟨_, rfl, .refl _⟩, ⟨_, rfl, .refl _⟩, ⟨_, rfl, .refl _⟩, ⟨_, rfl, .refl _⟩, ⟨_, rfl, .refl _⟩, trivial⟩ ⟨⟨_, rfl, .refl _⟩, trivial⟩ rfl rfl ?_)
    rintro v5 st8 hb9
    have h : m_IndexFunc_size_l1 a1 a2 v5 = some st8 := hb9
    clear hb9
    unfold m_IndexFunc_size_l1 at h
    show Ok PP _ [(0, slcE (Enc.slice Enc.rat) a1), (1, D.clo 234 [] [D.ref 610 0]), (7, D.int .i64 (a1.length : Int)), (8, D.int .i64 v5), (1000610, D.pinned 610 (b 610))] [(610, Hp.box 3 ([D.int .i64 a2]))] _ _
    refine .reg (.cm rfl rfl rfl <| .nil) rfl ?_
    refine .sq ?_
    by_cases c10 : (decide (v5 < (a1.length : Int))) = true
    · replace h := ite_pos_some c10 h
      refine .cTb rfl c10 ?_
      refine .skip (Ok.on ?_)
      refine .sq ?_
      refine .block ?_
      refine .reg (.mv rfl <| .asg rfl <| .nil) rfl ?_
      obtain ⟨v11, e12, h⟩ := bind_some h
      obtain ⟨v13, e14, h⟩ := bind_some h
      refine .reg (.mv rfl <| .mv rfl <| .mv rfl <| .ixE rfl rfl se_exact_Mat (ix_some e12).1 (ix_some e12).2 <| .lp1 rfl ly_Lexact_Q <| .callVk (Hi := [(610, Hp.box 3 ([D.int .i64 a2]))]) (d := D.bool v13) (ds := [slcE Enc.rat v11]) rfl (.ren (C_Mat_size_1 e14) (fun r => match r with | 1 => 610 | r => r) (fun r => match r with | 610 => 1 | r => r) rfl ⟨⟨_, rfl, .refl rfl⟩, trivial⟩ rfl ⟨.refl rfl, .ref (r := 1), trivial⟩ ⟨⟨_, rfl, .refl rfl⟩, trivial⟩ rfl (.refl rfl) rfl rfl rfl rfl rfl) ⟨rfl, trivial⟩ ⟨rfl, trivial⟩ rfl <| .nil) rfl ?_
      by_cases c15 : v13 = true
      · replace h := ite_pos_some c15 h
        refine .cTb rfl c15 ?_
        refine .reg (.mv rfl <| .asg rfl <| .nil) rfl ?_
        refine .retG (Hi := [(610, Hp.box 3 ([D.int .i64 a2]))]) (Ho := [(610, Hp.box 3 ([D.int .i64 a2]))]) (b := b) (fn := Go.Proofs.Tryz.f253) (d := D.int .i64 v5) (fun _ _ hb => by exact ⟨_, (Option.some.inj h).symm, fun e => by subst e; have h := ho2; cases h; have h := ho1; cases h; exact hb⟩) rfl (.cons (.tmp rfl) .nil) (.refl _) ⟨⟨_, rfl, .refl _⟩, trivial⟩ ⟨⟨_, rfl, .refl _⟩, trivial⟩
      · replace h := ite_neg_some c15 h
        refine .cFb rfl c15 ?_
        refine .skip (Ok.on ?_)
        refine .region (.ar rfl rfl rfl <| .mv rfl <| .nil) rfl (fun _ _ hs => ⟨(IntKind.i64.wrap (v5 + 1)), (Option.some.inj h).symm, hs.sub ⟨⟨_, rfl, .refl _⟩, ⟨_, rfl, .refl _⟩, ⟨_, rfl, .refl _⟩, ⟨_, rfl, .refl _⟩, ⟨_, rfl, .refl _⟩, trivial⟩ ⟨⟨_, rfl, .refl _⟩, trivial⟩ rfl rfl⟩)
    · replace h := ite_neg_some c10 h
      refine .cFb rfl c10 ?_
      refine .exit (fun a w hs => ⟨_, (Option.some.inj h).symm, fun e => by subst e; have h := ho2; exact blk_exit (⟨(), (Option.some.inj h).symm, hs.sub ⟨⟨_, rfl, .refl _⟩, trivial⟩ ⟨⟨_, rfl, .refl _⟩, trivial⟩ rfl rfl⟩)⟩)
  · rintro ⟨⟩ rfl
    show Ok PP _ [(1000610, D.pinned 610 (b 610))] [(610, Hp.box 3 ([D.int .i64 a2]))] _ _
    refine .reg (.asg rfl <| .nil) rfl ?_
    cases h
    refine .retG (fun _ _ hb => hb) rfl (.cons (.tmp rfl) .nil) (.refl _) ⟨⟨_, rfl, .refl _⟩, trivial⟩ ⟨⟨_, rfl, .refl _⟩, trivial⟩
def m_ContainsFunc_size (a1 : List (List Rat)) (a2 : Int) : Option Bool := (m_IndexFunc_size a1 a2).bind fun v3 => some (decide (v3 ≥ 0))
theorem C_ContainsFunc_size {a1 : List (List Rat)} {a2 : Int} {r5 : Bool} (h : m_ContainsFunc_size a1 a2 = some r5) : CtrG PP 233 [(610, Hp.box 3 ([D.int .i64 a2]))] [slcE (Enc.slice Enc.rat) a1, D.clo 234 [] [D.ref 610 0]] [(610, Hp.box 3 ([D.int .i64 a2]))] (D.bool r5) := by
  unfold m_ContainsFunc_size at h
  refine .of Go.Proofs.Tryz.func233 rfl (by kernel_rfl) rfl rfl rfl rfl rfl rfl (fun A w0 L b => ?_)
  show Ok PP _ [(0, slcE (Enc.slice Enc.rat) a1), (1, D.clo 234 [] [D.ref 610 0]), (1000610, D.pinned 610 (b 610))] [(610, Hp.box 3 ([D.int .i64 a2]))] _ _
  refine .reg (.asg rfl <| .nil) rfl ?_
  obtain ⟨v3, e4, h⟩ := bind_some h
  refine .reg (.mv rfl <| .mv rfl <| .callGk (Hi := [(610, Hp.box 3 ([D.int .i64 a2]))]) (d := D.int .i64 v3) (ds := [slcE (Enc.slice Enc.rat) a1, D.clo 234 [] [D.ref 610 0]]) (.ren (C_IndexFunc_size e4) (fun r => match r with | r => r) (fun r => match r with | r => r) rfl ⟨⟨_, rfl, .refl rfl⟩, trivial⟩ rfl ⟨.refl rfl, .clo trivial ⟨.ref (r := 610), trivial⟩, trivial⟩ ⟨⟨_, rfl, .refl rfl⟩, trivial⟩ rfl (.refl rfl) rfl rfl rfl rfl rfl) ⟨rfl, rfl, trivial⟩ ⟨rfl, trivial⟩ rfl <| .cm rfl rfl rfl <| .asg rfl <| .nil) rfl ?_
  cases h
  refine .retG (fun _ _ hb => hb) rfl (.cons (.tmp rfl) .nil) (.refl _) ⟨⟨_, rfl, .refl _⟩, trivial⟩ ⟨⟨_, rfl, .refl _⟩, trivial⟩
def m_Mat_size (a1 : List (List Rat)) : Option (Int × Int × Bool) := (if ((a1.length : Int) == 0) = true then some (0, 0, true) else (ix a1 0).bind fun v3 => (m_ContainsFunc_size a1 (v3.length : Int)).bind fun v5 => some ((a1.length : Int), (v3.length : Int), (!v5)))
theorem C_Mat_size {a1 : List (List Rat)} {r7 : Int} {r8 : Int} {r9 : Bool} (h : m_Mat_size a1 = some (r7, r8, r9)) : CtrG PP 194 [] [slcE (Enc.slice Enc.rat) a1] [] (D.tup [D.int .i64 r7, D.int .i64 r8, D.bool r9]) := by
  unfold m_Mat_size at h
  refine .of Go.Proofs.Tryz.func194 rfl (by kernel_rfl) rfl rfl rfl rfl rfl rfl (fun A w0 L b => ?_)
  show Ok PP _ [(0, slcE (Enc.slice Enc.rat) a1)] [] _ _
  refine .reg (.asg rfl <| .asg rfl <| .asg rfl <| .nil) rfl ?_
  refine .sq ?_
  refine .reg (.mv rfl <| .lnE rfl is_exact_Mat <| .cm rfl rfl rfl <| .nil) rfl ?_
  by_cases c2 : ((a1.length : Int) == 0) = true
  · replace h := ite_pos_some c2 h
    refine .cTb rfl c2 ?_
    refine .reg (.asg rfl <| .asg rfl <| .asg rfl <| .nil) rfl ?_
    cases h
    refine .retG (fun _ _ hb => hb) rfl (.cons (.tmp rfl) (.cons (.tmp rfl) (.cons (.tmp rfl) .nil))) (.refl _) trivial trivial
  · replace h := ite_neg_some c2 h
    refine .cFb rfl c2 ?_
    refine .skip (Ok.on ?_)
    obtain ⟨v3, e4, h⟩ := bind_some h
    refine .reg (.mv rfl <| .ixE rfl rfl se_exact_Mat (ix_some e4).1 (ix_some e4).2 <| .lp1 rfl ly_Lexact_Q <| .lnE rfl is_Lexact_Q <| .alL ([D.int .i64 0]) z_int ⟨.refl _, trivial⟩ rfl <| .stE1 ([D.int .i64 (v3.length : Int)]) rfl rfl rfl ly_int rfl rfl rfl <| .nil) rfl ?_
    obtain ⟨v5, e6, h⟩ := bind_some h
    refine .regD hmix (.mv rfl <| .lnE rfl is_exact_Mat <| .ldE1 (D.int .i64 (v3.length : Int)) rfl rfl ly_int rfl <| .mv rfl <| .mkF (fs := []) (cs := [.tmp 5]) (l := []) (m := [D.ref 5 0]) trivial ⟨rfl, trivial⟩ <| .callGk (Hi := [(5, Hp.box 3 ([D.int .i64 (v3.length : Int)]))]) (d := D.bool v5) (ds := [slcE (Enc.slice Enc.rat) a1, D.clo 234 [] [D.ref 5 0]]) (.ren (C_ContainsFunc_size e6) (fun r => match r with | 610 => 5 | r => r) (fun r => match r with | 5 => 610 | r => r) rfl ⟨⟨_, rfl, .refl rfl⟩, trivial⟩ rfl ⟨.refl rfl, .clo trivial ⟨.ref (r := 610), trivial⟩, trivial⟩ ⟨⟨_, rfl, .refl rfl⟩, trivial⟩ rfl (.refl rfl) rfl rfl rfl rfl rfl) ⟨rfl, rfl, trivial⟩ ⟨rfl, trivial⟩ rfl <| .not rfl <| .asg rfl <| .asg rfl <| .asg rfl <| .nil) rfl (by kernel_rfl) ?_
    cases h
    refine .retG (fun _ _ hb => hb) rfl (.cons (.tmp rfl) (.cons (.tmp rfl) (.cons (.tmp rfl) .nil))) (.refl _) trivial trivial
def m_Mat_turned_l2 (a1 : List (List Rat)) (v8 : Int) (v17 : Int) (v18 : List Rat) : Option (St (Int × (List Rat)) (List Rat)) := (if (decide (v17 < (a1.length : Int))) = true then (ix a1 v17).bind fun v24 => (ix v24 v8).bind fun v26 => must ((v18.length + ([v26]).length) * 56 ≤ 140737488355328 ∧ v18.length + ([v26]).length ≤ 9223372036854775807) (some (St.next ((IntKind.i64.wrap (v17 + 1)), (v18 ++ [v26])))) else some (St.done v18))
def m_Mat_turned_l1 (a1 : List (List Rat)) (v3 : Int) (v8 : Int) (v9 : List (List Rat)) : Option (St (Int × (List (List Rat))) (List (List Rat))) := (if (decide (v8 < v3)) = true then ((Loop (fun (s : Int × (List Rat)) => m_Mat_turned_l2 a1 v8 s.1 s.2) (0, [])).bind fun v29 => some (v29)).bind fun v30 => must ((v9.length + ([v30]).length) * 24 ≤ 140737488355328 ∧ v9.length + ([v30]).length ≤ 9223372036854775807) (some (St.next ((IntKind.i64.wrap (v8 + 1)), (v9 ++ [v30])))) else some (St.done v9))
def m_Mat_turned (a1 : List (List Rat)) : Option (List (List Rat)) := (m_Mat_size a1).bind fun (v2, v3, v4) => ((Loop (fun (s : Int × (List (List Rat))) => m_Mat_turned_l1 a1 v3 s.1 s.2) (0, [])).bind fun v32 => some (v32)).bind fun v33 => some v33
theorem C_Mat_turned {a1 : List (List Rat)} {r34 : List (List Rat)} (h : m_Mat_turned a1 = some r34) : CtrG PP 195 [] [slcE (Enc.slice Enc.rat) a1] [] (slcE (Enc.slice Enc.rat) r34) := by
  unfold m_Mat_turned at h
  refine .of Go.Proofs.Tryz.func195 rfl (by kernel_rfl) rfl rfl rfl rfl rfl rfl (fun A w0 L b => ?_)
  show Ok PP _ [(0, slcE (Enc.slice Enc.rat) a1)] [] _ _
  refine .reg (.asg rfl <| .nil) rfl ?_
  obtain ⟨⟨v2, v3, v4⟩, e5, h⟩ := bind_some h
  refine .reg (.mv rfl <| .callG (C_Mat_size e5) ⟨rfl, trivial⟩ trivial trivial <| .mv rfl <| .ext rfl rfl <| .ext rfl rfl <| .ext rfl rfl <| .asg rfl <| .asg rfl <| .asg rfl <| .nil) rfl ?_
  refine .reg (.asg rfl <| .nil) rfl ?_
  obtain ⟨v33, hp7, h⟩ := bind_some h
  refine .cutX (fun i => v33 = i) (fun (i : (List (List Rat))) => [(6, D.own 2000006)]) (fun (i : (List (List Rat))) => [(2000006, rowE (Enc.slice Enc.rat) 68 i)]) ?_ ?_
  · have ho1 := h
    clear h
    have h := hp7
    clear hp7
    refine .reg (.mv rfl <| .mv rfl <| .nil) rfl ?_
    refine .nilE (Enc.slice Enc.rat) 6 2000006 68 rfl rfl ?_
    obtain ⟨o10, hl11, h⟩ := bind_some h
    have ho2 := h
    clear h
    refine .block (.loopL (fun (s : Int × (List (List Rat))) => [(0, slcE (Enc.slice Enc.rat) a1), (6, D.own 2000006), (17, D.int .i64 v3), (18, D.int .i64 s.1)]) (fun (s : Int × (List (List Rat))) => [(2000006, rowE (Enc.slice Enc.rat) 68 s.2)]) hl11 ⟨⟨_, rfl, .refl _⟩, ⟨_, rfl, .refl _⟩, ⟨_, rfl, .refl _⟩, ⟨_, rfl, .refl _⟩, trivial⟩ ⟨⟨_, rfl, .refl _⟩, trivial⟩ rfl rfl ?_)
    rintro ⟨v8, v9⟩ st12 hb13
    have h : m_Mat_turned_l1 a1 v3 v8 v9 = some st12 := hb13
    clear hb13
    unfold m_Mat_turned_l1 at h
    show Ok PP _ [(0, slcE (Enc.slice Enc.rat) a1), (6, D.own 2000006), (17, D.int .i64 v3), (18, D.int .i64 v8)] [(2000006, rowE (Enc.slice Enc.rat) 68 v9)] _ _
    refine .reg (.cm rfl rfl rfl <| .nil) rfl ?_
    refine .sq ?_
    by_cases c14 : (decide (v8 < v3)) = true
    · replace h := ite_pos_some c14 h
      refine .cTb rfl c14 ?_
      refine .skip (Ok.on ?_)
      refine .sq ?_
      refine .block ?_
      refine .reg (.mv rfl <| .asg rfl <| .nil) rfl ?_
      refine .reg (.asg rfl <| .nil) rfl ?_
      obtain ⟨v30, hp16, h⟩ := bind_some h
      refine .cutX (fun i => v30 = i) (fun (i : (List Rat)) => [(0, slcE (Enc.slice Enc.rat) a1), (6, D.own 2000006), (8, D.own 2000008), (17, D.int .i64 v3), (18, D.int .i64 v8)]) (fun (i : (List Rat)) => [(2000006, rowE (Enc.slice Enc.rat) 68 v9), (2000008, rowE Enc.rat 28 i)]) ?_ ?_
      · have ho3 := h
        clear h
        have h := hp16
        clear hp16
        refine .reg (.mv rfl <| .lnE rfl is_exact_Mat <| .mv rfl <| .nil) rfl ?_
        refine .nilE Enc.rat 8 2000008 28 rfl rfl ?_
        obtain ⟨o19, hl20, h⟩ := bind_some h
        have ho4 := h
        clear h
        refine .block (.loopL (fun (s : Int × (List Rat)) => [(0, slcE (Enc.slice Enc.rat) a1), (6, D.own 2000006), (7, D.int .i64 v8), (8, D.own 2000008), (17, D.int .i64 v3), (18, D.int .i64 v8), (21, slcE (Enc.slice Enc.rat) a1), (22, D.int .i64 (a1.length : Int)), (23, D.int .i64 s.1)]) (fun (s : Int × (List Rat)) => [(2000006, rowE (Enc.slice Enc.rat) 68 v9), (2000008, rowE Enc.rat 28 s.2)]) hl20 ⟨⟨_, rfl, .refl _⟩, ⟨_, rfl, .refl _⟩, ⟨_, rfl, .refl _⟩, ⟨_, rfl, .refl _⟩, ⟨_, rfl, .refl _⟩, ⟨_, rfl, .refl _⟩, ⟨_, rfl, .refl _⟩, ⟨_, rfl, .refl _⟩, ⟨_, rfl, .refl _⟩, trivial⟩ ⟨⟨_, rfl, .refl _⟩, ⟨_, rfl, .refl _⟩, trivial⟩ rfl rfl ?_)
        rintro ⟨v17, v18⟩ st21 hb22
        have h : m_Mat_turned_l2 a1 v8 v17 v18 = some st21 := hb22
        clear hb22
        unfold m_Mat_turned_l2 at h
        show Ok PP _ [(0, slcE (Enc.slice Enc.rat) a1), (6, D.own 2000006), (7, D.int .i64 v8), (8, D.own 2000008), (17, D.int .i64 v3), (18, D.int .i64 v8), (21, slcE (Enc.slice Enc.rat) a1), (22, D.int .i64 (a1.length : Int)), (23, D.int .i64 v17)] [(2000006, rowE (Enc.slice Enc.rat) 68 v9), (2000008, rowE Enc.rat 28 v18)] _ _
        refine .reg (.cm rfl rfl rfl <| .nil) rfl ?_
        refine .sq ?_
        by_cases c23 : (decide (v17 < (a1.length : Int))) = true
        · replace h := ite_pos_some c23 h
          refine .cTb rfl c23 ?_
          refine .skip (Ok.on ?_)
          refine .sq ?_
          refine .block ?_
          obtain ⟨v24, e25, h⟩ := bind_some h
          refine .reg (.ixE rfl rfl se_exact_Mat (ix_some e25).1 (ix_some e25).2 <| .lp1 rfl ly_Lexact_Q <| .asg rfl <| .nil) rfl ?_
          refine .sl 8 rfl rfl rfl ?_
          obtain ⟨v26, e27, h⟩ := bind_some h
          obtain ⟨k28, h⟩ := must_some h
          refine .region (.mv rfl <| .mv rfl <| .mv rfl <| .ixE rfl rfl se_Lexact_Q (ix_some e27).1 (ix_some e27).2 <| .lpE (l := qC (v26)) rfl ly_exact_Q rfl <| .blQ (e := Enc.rat) [v26] [(0, _, qD v26, qC (v26))] mk_Lexact_Q rfl rfl rfl ⟨rfl, rfl, .agg _, rfl, trivial⟩ ⟨rfl, trivial⟩ rfl rfl <| .apD (ys := [v26]) rfl .sl rfl (.refl _) rfl mk_Lexact_Q rfl k28.1 k28.2 rfl <| .asg rfl <| .nil) rfl (Ok.on ?_)
          refine .region (.ar rfl rfl rfl <| .mv rfl <| .nil) rfl (fun _ _ hs => ⟨((IntKind.i64.wrap (v17 + 1)), (v18 ++ [v26])), (Option.some.inj h).symm, hs.subR (fun r => match r with | 2000008 => 33 | r => r) ⟨⟨_, rfl, .refl rfl⟩, ⟨_, rfl, .own (r := 2000006)⟩, ⟨_, rfl, .refl rfl⟩, ⟨_, rfl, .own (r := 2000008)⟩, ⟨_, rfl, .refl rfl⟩, ⟨_, rfl, .refl rfl⟩, ⟨_, rfl, .refl rfl⟩, ⟨_, rfl, .refl rfl⟩, ⟨_, rfl, .refl rfl⟩, trivial⟩ ⟨⟨_, rfl, .refl rfl⟩, ⟨_, rfl, .refl rfl⟩, trivial⟩ rfl rfl rfl⟩)
        · replace h := ite_neg_some c23 h
          refine .cFb rfl c23 ?_
          refine .exit (fun a w hs => ⟨_, (Option.some.inj h).symm, fun e => by subst e; have h := ho4; exact blk_exit (⟨v18, (Option.some.inj h).symm, hs.sub ⟨⟨_, rfl, .refl _⟩, ⟨_, rfl, .refl _⟩, ⟨_, rfl, .refl _⟩, ⟨_, rfl, .refl _⟩, ⟨_, rfl, .refl _⟩, trivial⟩ ⟨⟨_, rfl, .refl _⟩, ⟨_, rfl, .refl _⟩, trivial⟩ rfl rfl⟩)⟩)
      · rintro _ rfl
        show Ok PP _ [(0, slcE (Enc.slice Enc.rat) a1), (6, D.own 2000006), (8, D.own 2000008), (17, D.int .i64 v3), (18, D.int .i64 v8)] [(2000006, rowE (Enc.slice Enc.rat) 68 v9), (2000008, rowE Enc.rat 28 v30)] _ _
        refine .sl 6 rfl rfl rfl ?_
        refine .sl 8 rfl rfl rfl ?_
        refine .leT 8 (.own 2000008) rfl .sl ?_
        refine .giveE 8 rfl rfl rfl ?_
        obtain ⟨k31, h⟩ := must_some h
        refine .region (.mv rfl <| .mv rfl <| .blQ (e := (Enc.slice Enc.rat)) [v30] [(0, _, slcE Enc.rat v30, [slcE Enc.rat v30])] mk_exact_Mat rfl rfl rfl ⟨rfl, rfl, .one rfl, rfl, trivial⟩ ⟨rfl, trivial⟩ rfl rfl <| .apD (ys := [v30]) rfl .sl rfl (.refl _) rfl mk_exact_Mat rfl k31.1 k31.2 rfl <| .asg rfl <| .nil) rfl (Ok.on ?_)
        refine .region (.ar rfl rfl rfl <| .mv rfl <| .nil) rfl (fun _ _ hs => ⟨((IntKind.i64.wrap (v8 + 1)), (v9 ++ [v30])), (Option.some.inj h).symm, hs.subR (fun r => match r with | 2000006 => 38 | r => r) ⟨⟨_, rfl, .refl rfl⟩, ⟨_, rfl, .own (r := 2000006)⟩, ⟨_, rfl, .refl rfl⟩, ⟨_, rfl, .refl rfl⟩, trivial⟩ ⟨⟨_, rfl, .refl rfl⟩, trivial⟩ rfl rfl rfl⟩)
    · replace h := ite_neg_some c14 h
      refine .cFb rfl c14 ?_
      refine .exit (fun a w hs => ⟨_, (Option.some.inj h).symm, fun e => by subst e; have h := ho2; exact blk_exit (⟨v9, (Option.some.inj h).symm, hs.sub ⟨⟨_, rfl, .refl _⟩, trivial⟩ ⟨⟨_, rfl, .refl _⟩, trivial⟩ rfl rfl⟩)⟩)
  · rintro _ rfl
    show Ok PP _ [(6, D.own 2000006)] [(2000006, rowE (Enc.slice Enc.rat) 68 v33)] _ _
    refine .sl 6 rfl rfl rfl ?_
    refine .reg (.mv rfl <| .asg rfl <| .nil) rfl ?_
    refine .leT 2 (.own 2000006) rfl .sl ?_
    refine .giveE 2 rfl rfl rfl ?_
    cases h
    refine .retG (fun _ _ hb => hb) rfl (.cons (.tmp rfl) .nil) (.refl _) trivial trivial
def m_Trans (a1 : List (List Rat)) : Option ((List (List Rat)) × Int) := (m_Mat_size a1).bind fun (v2, v3, v4) => (if (!v4) = true then some ([], 2) else (m_Mat_turned a1).bind fun v7 => some (v7, 0))
theorem C_Trans {a1 : List (List Rat)} {r9 : List (List Rat)} {r10 : Int} (h : m_Trans a1 = some (r9, r10)) : CtrG PP 109 [] [slcE (Enc.slice Enc.rat) a1] [] (D.tup [slcE (Enc.slice Enc.rat) r9, D.int .i64 r10]) := by
  unfold m_Trans at h
  refine .of Go.Proofs.Tryz.func109 rfl (by kernel_rfl) rfl rfl rfl rfl rfl rfl (fun A w0 L b => ?_)
  show Ok PP _ [(0, slcE (Enc.slice Enc.rat) a1)] [] _ _
  refine .reg (.asg rfl <| .asg rfl <| .nil) rfl ?_
  refine .sq ?_
  obtain ⟨⟨v2, v3, v4⟩, e5, h⟩ := bind_some h
  refine .reg (.mv rfl <| .callG (C_Mat_size e5) ⟨rfl, trivial⟩ trivial trivial <| .mv rfl <| .ext rfl rfl <| .ext rfl rfl <| .ext rfl rfl <| .asg rfl <| .asg rfl <| .asg rfl <| .nil) rfl ?_
  refine .reg (.mv rfl <| .not rfl <| .nil) rfl ?_
  by_cases c6 : (!v4) = true
  · replace h := ite_pos_some c6 h
    refine .cTb rfl c6 ?_
    refine .reg (.asg rfl <| .asg rfl <| .nil) rfl ?_
    cases h
    refine .retG (fun _ _ hb => hb) rfl (.cons (.tmp rfl) (.cons (.tmp rfl) .nil)) (.tup ⟨.nilE _, .refl _, trivial⟩) trivial trivial
  · replace h := ite_neg_some c6 h
    refine .cFb rfl c6 ?_
    refine .skip (Ok.on ?_)
    obtain ⟨v7, e8, h⟩ := bind_some h
    refine .reg (.mv rfl <| .callG (C_Mat_turned e8) ⟨rfl, trivial⟩ trivial trivial <| .asg rfl <| .asg rfl <| .nil) rfl ?_
    cases h
    refine .retG (fun _ _ hb => hb) rfl (.cons (.tmp rfl) (.cons (.tmp rfl) .nil)) (.refl _) trivial trivial
def m_Mul_l2 (v14 : List (List Rat)) (v25 : List Rat) (v29 : Int) (v30 : List Rat) : Option (St (Int × (List Rat)) (List Rat)) := (if (decide (v29 < (v14.length : Int))) = true then (ix v14 v29).bind fun v36 => (m_dot v25 v36).bind fun v38 => must ((v30.length + ([v38]).length) * 56 ≤ 140737488355328 ∧ v30.length + ([v38]).length ≤ 9223372036854775807) (some (St.next ((IntKind.i64.wrap (v29 + 1)), (v30 ++ [v38])))) else some (St.done v30))
def m_Mul_l1 (a1 : List (List Rat)) (v14 : List (List Rat)) (v18 : Int) (v19 : List (List Rat)) : Option (St (Int × (List (List Rat))) (List (List Rat))) := (if (decide (v18 < (a1.length : Int))) = true then (ix a1 v18).bind fun v25 => ((Loop (fun (s : Int × (List Rat)) => m_Mul_l2 v14 v25 s.1 s.2) (0, ([] : List Rat))).bind fun v41 => some (v41)).bind fun v42 => must ((v19.length + ([v42]).length) * 24 ≤ 140737488355328 ∧ v19.length + ([v42]).length ≤ 9223372036854775807) (some (St.next ((IntKind.i64.wrap (v18 + 1)), (v19 ++ [v42])))) else some (St.done v19))
def m_Mul (a1 : List (List Rat)) (a2 : List (List Rat)) : Option ((List (List Rat)) × Int) := (m_Mat_size a1).bind fun (v3, v4, v5) => (m_Mat_size a2).bind fun (v7, v8, v9) => (if (!v5) = true then some ([], 2) else (if (!v9) = true then some ([], 2) else (if (v4 != v7) = true then some ([], 2) else (m_Mat_turned a2).bind fun v14 => ((Loop (fun (s : Int × (List (List Rat))) => m_Mul_l1 a1 v14 s.1 s.2) (0, [])).bind fun v44 => some (v44)).bind fun v45 => some (v45, 0))))
theorem C_Mul {a1 : List (List Rat)} {a2 : List (List Rat)} {r46 : List (List Rat)} {r47 : Int} (h : m_Mul a1 a2 = some (r46, r47)) : CtrG PP 107 [] [slcE (Enc.slice Enc.rat) a1, slcE (Enc.slice Enc.rat) a2] [] (D.tup [slcE (Enc.slice Enc.rat) r46, D.int .i64 r47]) := by
  unfold m_Mul at h
  refine .of Go.Proofs.Tryz.func107 rfl (by kernel_rfl) rfl rfl rfl rfl rfl rfl (fun A w0 L b => ?_)
  show Ok PP _ [(0, slcE (Enc.slice Enc.rat) a1), (1, slcE (Enc.slice Enc.rat) a2)] [] _ _
  refine .reg (.asg rfl <| .asg rfl <| .nil) rfl ?_
  obtain ⟨⟨v3, v4, v5⟩, e6, h⟩ := bind_some h
  refine .reg (.mv rfl <| .callG (C_Mat_size e6) ⟨rfl, trivial⟩ trivial trivial <| .mv rfl <| .ext rfl rfl <| .ext rfl rfl <| .ext rfl rfl <| .asg rfl <| .asg rfl <| .asg rfl <| .nil) rfl ?_
  obtain ⟨⟨v7, v8, v9⟩, e10, h⟩ := bind_some h
  refine .reg (.mv rfl <| .callG (C_Mat_size e10) ⟨rfl, trivial⟩ trivial trivial <| .mv rfl <| .ext rfl rfl <| .ext rfl rfl <| .ext rfl rfl <| .asg rfl <| .asg rfl <| .asg rfl <| .nil) rfl ?_
  refine .sq ?_
  by_cases c11 : (!v5) = true
  · replace h := ite_pos_some c11 h
    refine .reg (.mv rfl <| .not rfl <| .mv rfl <| .gNf rfl rfl rfl c11 <| .gNf rfl rfl rfl c11 <| .pkTb rfl c11 rfl <| .mv rfl <| .gNf rfl rfl rfl rfl <| .gNf rfl rfl rfl rfl <| .gNf rfl rfl rfl rfl <| .pkTb rfl rfl rfl <| .nil) rfl ?_
    refine .cTb rfl rfl ?_
    refine .reg (.asg rfl <| .asg rfl <| .nil) rfl ?_
    cases h
    refine .retG (fun _ _ hb => hb) rfl (.cons (.tmp rfl) (.cons (.tmp rfl) .nil)) (.tup ⟨.nilE _, .refl _, trivial⟩) trivial trivial
  · replace h := ite_neg_some c11 h
    by_cases c12 : (!v9) = true
    · replace h := ite_pos_some c12 h
      refine .reg (.mv rfl <| .not rfl <| .mv rfl <| .gYf rfl rfl rfl c11 <| .mv rfl <| .gYf rfl rfl rfl c11 <| .not rfl <| .pkFb rfl c11 rfl <| .mv rfl <| .gNf rfl rfl rfl c12 <| .gNf rfl rfl rfl c12 <| .gNf rfl rfl rfl c12 <| .pkTb rfl c12 rfl <| .nil) rfl ?_
      refine .cTb rfl rfl ?_
      refine .reg (.asg rfl <| .asg rfl <| .nil) rfl ?_
      cases h
      refine .retG (fun _ _ hb => hb) rfl (.cons (.tmp rfl) (.cons (.tmp rfl) .nil)) (.tup ⟨.nilE _, .refl _, trivial⟩) trivial trivial
    · replace h := ite_neg_some c12 h
      refine .reg (.mv rfl <| .not rfl <| .mv rfl <| .gYf rfl rfl rfl c11 <| .mv rfl <| .gYf rfl rfl rfl c11 <| .not rfl <| .pkFb rfl c11 rfl <| .mv rfl <| .gYf rfl rfl rfl c12 <| .mv rfl <| .gYf rfl rfl rfl c12 <| .mv rfl <| .gYf rfl rfl rfl c12 <| .cm rfl rfl rfl <| .pkFb rfl c12 rfl <| .nil) rfl ?_
      by_cases c13 : (v4 != v7) = true
      · replace h := ite_pos_some c13 h
        refine .cTb rfl c13 ?_
        refine .reg (.asg rfl <| .asg rfl <| .nil) rfl ?_
        cases h
        refine .retG (fun _ _ hb => hb) rfl (.cons (.tmp rfl) (.cons (.tmp rfl) .nil)) (.tup ⟨.nilE _, .refl _, trivial⟩) trivial trivial
      · replace h := ite_neg_some c13 h
        refine .cFb rfl c13 ?_
        refine .skip (Ok.on ?_)
        obtain ⟨v14, e15, h⟩ := bind_some h
        refine .reg (.mv rfl <| .callG (C_Mat_turned e15) ⟨rfl, trivial⟩ trivial trivial <| .asg rfl <| .nil) rfl ?_
        refine .reg (.asg rfl <| .nil) rfl ?_
        obtain ⟨v45, hp17, h⟩ := bind_some h
        refine .cutX (fun i => v45 = i) (fun (i : (List (List Rat))) => [(13, D.own 2000013)]) (fun (i : (List (List Rat))) => [(2000013, rowE (Enc.slice Enc.rat) 68 i)]) ?_ ?_
        · have ho1 := h
          clear h
          have h := hp17
          clear hp17
          refine .reg (.mv rfl <| .lnE rfl is_exact_Mat <| .mv rfl <| .nil) rfl ?_
          refine .nilE (Enc.slice Enc.rat) 13 2000013 68 rfl rfl ?_
          obtain ⟨o20, hl21, h⟩ := bind_some h
          have ho2 := h
          clear h
          refine .block (.loopL (fun (s : Int × (List (List Rat))) => [(12, slcE (Enc.slice Enc.rat) v14), (13, D.own 2000013), (44, slcE (Enc.slice Enc.rat) a1), (45, D.int .i64 (a1.length : Int)), (46, D.int .i64 s.1)]) (fun (s : Int × (List (List Rat))) => [(2000013, rowE (Enc.slice Enc.rat) 68 s.2)]) hl21 ⟨⟨_, rfl, .refl _⟩, ⟨_, rfl, .refl _⟩, ⟨_, rfl, .refl _⟩, ⟨_, rfl, .refl _⟩, ⟨_, rfl, .refl _⟩, trivial⟩ ⟨⟨_, rfl, .refl _⟩, trivial⟩ rfl rfl ?_)
          rintro ⟨v18, v19⟩ st22 hb23
          have h : m_Mul_l1 a1 v14 v18 v19 = some st22 := hb23
          clear hb23
          unfold m_Mul_l1 at h
          show Ok PP _ [(12, slcE (Enc.slice Enc.rat) v14), (13, D.own 2000013), (44, slcE (Enc.slice Enc.rat) a1), (45, D.int .i64 (a1.length : Int)), (46, D.int .i64 v18)] [(2000013, rowE (Enc.slice Enc.rat) 68 v19)] _ _
          refine .reg (.cm rfl rfl rfl <| .nil) rfl ?_
          refine .sq ?_
          by_cases c24 : (decide (v18 < (a1.length : Int))) = true
          · replace h := ite_pos_some c24 h
            refine .cTb rfl c24 ?_
            refine .skip (Ok.on ?_)
            refine .sq ?_
            refine .block ?_
            obtain ⟨v25, e26, h⟩ := bind_some h
            refine .reg (.ixE rfl rfl se_exact_Mat (ix_some e26).1 (ix_some e26).2 <| .lp1 rfl ly_Lexact_Q <| .asg rfl <| .nil) rfl ?_
            refine .reg (.blE0 Enc.rat mk_Lexact_Q rfl rfl <| .asg rfl <| .nil) rfl ?_
            obtain ⟨v42, hp28, h⟩ := bind_some h
            refine .cutX (fun i => v42 = i) (fun (i : (List Rat)) => [(12, slcE (Enc.slice Enc.rat) v14), (13, D.own 2000013), (16, D.own 50), (44, slcE (Enc.slice Enc.rat) a1), (45, D.int .i64 (a1.length : Int)), (46, D.int .i64 v18)]) (fun (i : (List Rat)) => [(2000013, rowE (Enc.slice Enc.rat) 68 v19), (50, rowE Enc.rat 28 i)]) ?_ ?_
            · have ho3 := h
              clear h
              have h := hp28
              clear hp28
              refine .reg (.mv rfl <| .lnE rfl is_exact_Mat <| .mv rfl <| .nil) rfl ?_
              obtain ⟨o31, hl32, h⟩ := bind_some h
              have ho4 := h
              clear h
              refine .block (.loopL (fun (s : Int × (List Rat)) => [(12, slcE (Enc.slice Enc.rat) v14), (13, D.own 2000013), (15, slcE Enc.rat v25), (16, D.own 50), (44, slcE (Enc.slice Enc.rat) a1), (45, D.int .i64 (a1.length : Int)), (46, D.int .i64 v18), (51, slcE (Enc.slice Enc.rat) v14), (52, D.int .i64 (v14.length : Int)), (53, D.int .i64 s.1)]) (fun (s : Int × (List Rat)) => [(2000013, rowE (Enc.slice Enc.rat) 68 v19), (50, rowE Enc.rat 28 s.2)]) hl32 ⟨⟨_, rfl, .refl _⟩, ⟨_, rfl, .refl _⟩, ⟨_, rfl, .refl _⟩, ⟨_, rfl, .refl _⟩, ⟨_, rfl, .refl _⟩, ⟨_, rfl, .refl _⟩, ⟨_, rfl, .refl _⟩, ⟨_, rfl, .refl _⟩, ⟨_, rfl, .refl _⟩, ⟨_, rfl, .refl _⟩, trivial⟩ ⟨⟨_, rfl, .refl _⟩, ⟨_, rfl, .refl _⟩, trivial⟩ rfl rfl ?_)
              rintro ⟨v29, v30⟩ st33 hb34
              have h : m_Mul_l2 v14 v25 v29 v30 = some st33 := hb34
              clear hb34
              unfold m_Mul_l2 at h
              show Ok PP _ [(12, slcE (Enc.slice Enc.rat) v14), (13, D.own 2000013), (15, slcE Enc.rat v25), (16, D.own 50), (44, slcE (Enc.slice Enc.rat) a1), (45, D.int .i64 (a1.length : Int)), (46, D.int .i64 v18), (51, slcE (Enc.slice Enc.rat) v14), (52, D.int .i64 (v14.length : Int)), (53, D.int .i64 v29)] [(2000013, rowE (Enc.slice Enc.rat) 68 v19), (50, rowE Enc.rat 28 v30)] _ _
              refine .reg (.cm rfl rfl rfl <| .nil) rfl ?_
              refine .sq ?_
              by_cases c35 : (decide (v29 < (v14.length : Int))) = true
              · replace h := ite_pos_some c35 h
                refine .cTb rfl c35 ?_
                refine .skip (Ok.on ?_)
                refine .sq ?_
                refine .block ?_
                obtain ⟨v36, e37, h⟩ := bind_some h
                refine .reg (.ixE rfl rfl se_exact_Mat (ix_some e37).1 (ix_some e37).2 <| .lp1 rfl ly_Lexact_Q <| .asg rfl <| .nil) rfl ?_
                refine .sl 16 rfl rfl rfl ?_
                obtain ⟨v38, e39, h⟩ := bind_some h
                obtain ⟨k40, h⟩ := must_some h
                refine .region (.mv rfl <| .mv rfl <| .mv rfl <| .callG (C_dot e39) ⟨rfl, rfl, trivial⟩ trivial trivial <| .blQ (e := Enc.rat) [v38] [(0, _, qD v38, qC (v38))] mk_Lexact_Q rfl rfl rfl ⟨rfl, rfl, .agg _, rfl, trivial⟩ ⟨rfl, trivial⟩ rfl rfl <| .apD (ys := [v38]) rfl .sl rfl (.refl _) rfl mk_Lexact_Q rfl k40.1 k40.2 rfl <| .asg rfl <| .nil) rfl (Ok.on ?_)
                refine .region (.ar rfl rfl rfl <| .mv rfl <| .nil) rfl (fun _ _ hs => ⟨((IntKind.i64.wrap (v29 + 1)), (v30 ++ [v38])), (Option.some.inj h).symm, hs.subR (fun r => match r with | 50 => 62 | r => r) ⟨⟨_, rfl, .refl rfl⟩, ⟨_, rfl, .own (r := 2000013)⟩, ⟨_, rfl, .refl rfl⟩, ⟨_, rfl, .own (r := 50)⟩, ⟨_, rfl, .refl rfl⟩, ⟨_, rfl, .refl rfl⟩, ⟨_, rfl, .refl rfl⟩, ⟨_, rfl, .refl rfl⟩, ⟨_, rfl, .refl rfl⟩, ⟨_, rfl, .refl rfl⟩, trivial⟩ ⟨⟨_, rfl, .refl rfl⟩, ⟨_, rfl, .refl rfl⟩, trivial⟩ rfl rfl rfl⟩)
              · replace h := ite_neg_some c35 h
                refine .cFb rfl c35 ?_
                refine .exit (fun a w hs => ⟨_, (Option.some.inj h).symm, fun e => by subst e; have h := ho4; exact blk_exit (⟨v30, (Option.some.inj h).symm, hs.sub ⟨⟨_, rfl, .refl _⟩, ⟨_, rfl, .refl _⟩, ⟨_, rfl, .refl _⟩, ⟨_, rfl, .refl _⟩, ⟨_, rfl, .refl _⟩, ⟨_, rfl, .refl _⟩, trivial⟩ ⟨⟨_, rfl, .refl _⟩, ⟨_, rfl, .refl _⟩, trivial⟩ rfl rfl⟩)⟩)
            · rintro _ rfl
              show Ok PP _ [(12, slcE (Enc.slice Enc.rat) v14), (13, D.own 2000013), (16, D.own 50), (44, slcE (Enc.slice Enc.rat) a1), (45, D.int .i64 (a1.length : Int)), (46, D.int .i64 v18)] [(2000013, rowE (Enc.slice Enc.rat) 68 v19), (50, rowE Enc.rat 28 v42)] _ _
              refine .sl 13 rfl rfl rfl ?_
              refine .sl 16 rfl rfl rfl ?_
              refine .leT 16 (.own 50) rfl .sl ?_
              refine .giveE 16 rfl rfl rfl ?_
              obtain ⟨k43, h⟩ := must_some h
              refine .region (.mv rfl <| .mv rfl <| .blQ (e := (Enc.slice Enc.rat)) [v42] [(0, _, slcE Enc.rat v42, [slcE Enc.rat v42])] mk_exact_Mat rfl rfl rfl ⟨rfl, rfl, .one rfl, rfl, trivial⟩ ⟨rfl, trivial⟩ rfl rfl <| .apD (ys := [v42]) rfl .sl rfl (.refl _) rfl mk_exact_Mat rfl k43.1 k43.2 rfl <| .asg rfl <| .nil) rfl (Ok.on ?_)
              refine .region (.ar rfl rfl rfl <| .mv rfl <| .nil) rfl (fun _ _ hs => ⟨((IntKind.i64.wrap (v18 + 1)), (v19 ++ [v42])), (Option.some.inj h).symm, hs.subR (fun r => match r with | 2000013 => 67 | r => r) ⟨⟨_, rfl, .refl rfl⟩, ⟨_, rfl, .own (r := 2000013)⟩, ⟨_, rfl, .refl rfl⟩, ⟨_, rfl, .refl rfl⟩, ⟨_, rfl, .refl rfl⟩, trivial⟩ ⟨⟨_, rfl, .refl rfl⟩, trivial⟩ rfl rfl rfl⟩)
          · replace h := ite_neg_some c24 h
            refine .cFb rfl c24 ?_
            refine .exit (fun a w hs => ⟨_, (Option.some.inj h).symm, fun e => by subst e; have h := ho2; exact blk_exit (⟨v19, (Option.some.inj h).symm, hs.sub ⟨⟨_, rfl, .refl _⟩, trivial⟩ ⟨⟨_, rfl, .refl _⟩, trivial⟩ rfl rfl⟩)⟩)
        · rintro _ rfl
          show Ok PP _ [(13, D.own 2000013)] [(2000013, rowE (Enc.slice Enc.rat) 68 v45)] _ _
          refine .sl 13 rfl rfl rfl ?_
          refine .reg (.mv rfl <| .asg rfl <| .asg rfl <| .nil) rfl ?_
          refine .leT 4 (.own 2000013) rfl .sl ?_
          refine .giveE 4 rfl rfl rfl ?_
          cases h
          refine .retG (fun _ _ hb => hb) rfl (.cons (.tmp rfl) (.cons (.tmp rfl) .nil)) (.refl _) trivial trivial
def m_Apply_l1 (a1 : List (List Rat)) (a2 : List Rat) (v11 : Int) (v12 : List Rat) : Option (St (Int × (List Rat)) (List Rat)) := (if (decide (v11 < (a1.length : Int))) = true then (ix a1 v11).bind fun v18 => (m_dot v18 a2).bind fun v20 => must ((v12.length + ([v20]).length) * 56 ≤ 140737488355328 ∧ v12.length + ([v20]).length ≤ 9223372036854775807) (some (St.next ((IntKind.i64.wrap (v11 + 1)), (v12 ++ [v20])))) else some (St.done v12))
def m_Apply (a1 : List (List Rat)) (a2 : List Rat) : Option ((List Rat) × Int) := (m_Mat_size a1).bind fun (v3, v4, v5) => (if (!v5) = true then some ([], 2) else (if (v4 != (a2.length : Int)) = true then some ([], 2) else ((Loop (fun (s : Int × (List Rat)) => m_Apply_l1 a1 a2 s.1 s.2) (0, [])).bind fun v23 => some (v23)).bind fun v24 => some (v24, 0)))
theorem C_Apply {a1 : List (List Rat)} {a2 : List Rat} {r25 : List Rat} {r26 : Int} (h : m_Apply a1 a2 = some (r25, r26)) : CtrG PP 108 [] [slcE (Enc.slice Enc.rat) a1, slcE Enc.rat a2] [] (D.tup [slcE Enc.rat r25, D.int .i64 r26]) := by
  unfold m_Apply at h
  refine .of Go.Proofs.Tryz.func108 rfl (by kernel_rfl) rfl rfl rfl rfl rfl rfl (fun A w0 L b => ?_)
  show Ok PP _ [(0, slcE (Enc.slice Enc.rat) a1), (1, slcE Enc.rat a2)] [] _ _
  refine .reg (.asg rfl <| .asg rfl <| .nil) rfl ?_
  refine .sq ?_
  obtain ⟨⟨v3, v4, v5⟩, e6, h⟩ := bind_some h
  refine .reg (.mv rfl <| .callG (C_Mat_size e6) ⟨rfl, trivial⟩ trivial trivial <| .mv rfl <| .ext rfl rfl <| .ext rfl rfl <| .ext rfl rfl <| .asg rfl <| .asg rfl <| .asg rfl <| .nil) rfl ?_
  by_cases c7 : (!v5) = true
  · replace h := ite_pos_some c7 h
    refine .reg (.mv rfl <| .not rfl <| .mv rfl <| .gNf rfl rfl rfl c7 <| .gNf rfl rfl rfl c7 <| .gNf rfl rfl rfl c7 <| .gNf rfl rfl rfl c7 <| .pkTb rfl c7 rfl <| .nil) rfl ?_
    refine .cTb rfl rfl ?_
    refine .reg (.asg rfl <| .asg rfl <| .nil) rfl ?_
    cases h
    refine .retG (fun _ _ hb => hb) rfl (.cons (.tmp rfl) (.cons (.tmp rfl) .nil)) (.tup ⟨.nilE _, .refl _, trivial⟩) trivial trivial
  · replace h := ite_neg_some c7 h
    refine .reg (.mv rfl <| .not rfl <| .mv rfl <| .gYf rfl rfl rfl c7 <| .mv rfl <| .gYf rfl rfl rfl c7 <| .mv rfl <| .gYf rfl rfl rfl c7 <| .lnE rfl is_Lexact_Q <| .gYf rfl rfl rfl c7 <| .cm rfl rfl rfl <| .pkFb rfl c7 rfl <| .nil) rfl ?_
    by_cases c8 : (v4 != (a2.length : Int)) = true
    · replace h := ite_pos_some c8 h
      refine .cTb rfl c8 ?_
      refine .reg (.asg rfl <| .asg rfl <| .nil) rfl ?_
      cases h
      refine .retG (fun _ _ hb => hb) rfl (.cons (.tmp rfl) (.cons (.tmp rfl) .nil)) (.tup ⟨.nilE _, .refl _, trivial⟩) trivial trivial
    · replace h := ite_neg_some c8 h
      refine .cFb rfl c8 ?_
      refine .skip (Ok.on ?_)
      refine .reg (.asg rfl <| .nil) rfl ?_
      obtain ⟨v24, hp10, h⟩ := bind_some h
      refine .cutX (fun i => v24 = i) (fun (i : (List Rat)) => [(9, D.own 2000009)]) (fun (i : (List Rat)) => [(2000009, rowE Enc.rat 28 i)]) ?_ ?_
      · have ho1 := h
        clear h
        have h := hp10
        clear hp10
        refine .reg (.mv rfl <| .lnE rfl is_exact_Mat <| .mv rfl <| .nil) rfl ?_
        refine .nilE Enc.rat 9 2000009 28 rfl rfl ?_
        obtain ⟨o13, hl14, h⟩ := bind_some h
        have ho2 := h
        clear h
        refine .block (.loopL (fun (s : Int × (List Rat)) => [(1, slcE Enc.rat a2), (9, D.own 2000009), (26, slcE (Enc.slice Enc.rat) a1), (27, D.int .i64 (a1.length : Int)), (28, D.int .i64 s.1)]) (fun (s : Int × (List Rat)) => [(2000009, rowE Enc.rat 28 s.2)]) hl14 ⟨⟨_, rfl, .refl _⟩, ⟨_, rfl, .refl _⟩, ⟨_, rfl, .refl _⟩, ⟨_, rfl, .refl _⟩, ⟨_, rfl, .refl _⟩, trivial⟩ ⟨⟨_, rfl, .refl _⟩, trivial⟩ rfl rfl ?_)
        rintro ⟨v11, v12⟩ st15 hb16
        have h : m_Apply_l1 a1 a2 v11 v12 = some st15 := hb16
        clear hb16
        unfold m_Apply_l1 at h
        show Ok PP _ [(1, slcE Enc.rat a2), (9, D.own 2000009), (26, slcE (Enc.slice Enc.rat) a1), (27, D.int .i64 (a1.length : Int)), (28, D.int .i64 v11)] [(2000009, rowE Enc.rat 28 v12)] _ _
        refine .reg (.cm rfl rfl rfl <| .nil) rfl ?_
        refine .sq ?_
        by_cases c17 : (decide (v11 < (a1.length : Int))) = true
        · replace h := ite_pos_some c17 h
          refine .cTb rfl c17 ?_
          refine .skip (Ok.on ?_)
          refine .sq ?_
          refine .block ?_
          obtain ⟨v18, e19, h⟩ := bind_some h
          refine .reg (.ixE rfl rfl se_exact_Mat (ix_some e19).1 (ix_some e19).2 <| .lp1 rfl ly_Lexact_Q <| .asg rfl <| .nil) rfl ?_
          refine .sl 9 rfl rfl rfl ?_
          obtain ⟨v20, e21, h⟩ := bind_some h
          obtain ⟨k22, h⟩ := must_some h
          refine .region (.mv rfl <| .mv rfl <| .mv rfl <| .callG (C_dot e21) ⟨rfl, rfl, trivial⟩ trivial trivial <| .blQ (e := Enc.rat) [v20] [(0, _, qD v20, qC (v20))] mk_Lexact_Q rfl rfl rfl ⟨rfl, rfl, .agg _, rfl, trivial⟩ ⟨rfl, trivial⟩ rfl rfl <| .apD (ys := [v20]) rfl .sl rfl (.refl _) rfl mk_Lexact_Q rfl k22.1 k22.2 rfl <| .asg rfl <| .nil) rfl (Ok.on ?_)
          refine .region (.ar rfl rfl rfl <| .mv rfl <| .nil) rfl (fun _ _ hs => ⟨((IntKind.i64.wrap (v11 + 1)), (v12 ++ [v20])), (Option.some.inj h).symm, hs.subR (fun r => match r with | 2000009 => 37 | r => r) ⟨⟨_, rfl, .refl rfl⟩, ⟨_, rfl, .own (r := 2000009)⟩, ⟨_, rfl, .refl rfl⟩, ⟨_, rfl, .refl rfl⟩, ⟨_, rfl, .refl rfl⟩, trivial⟩ ⟨⟨_, rfl, .refl rfl⟩, trivial⟩ rfl rfl rfl⟩)
        · replace h := ite_neg_some c17 h
          refine .cFb rfl c17 ?_
          refine .exit (fun a w hs => ⟨_, (Option.some.inj h).symm, fun e => by subst e; have h := ho2; exact blk_exit (⟨v12, (Option.some.inj h).symm, hs.sub ⟨⟨_, rfl, .refl _⟩, trivial⟩ ⟨⟨_, rfl, .refl _⟩, trivial⟩ rfl rfl⟩)⟩)
      · rintro _ rfl
        show Ok PP _ [(9, D.own 2000009)] [(2000009, rowE Enc.rat 28 v24)] _ _
        refine .sl 9 rfl rfl rfl ?_
        refine .reg (.mv rfl <| .asg rfl <| .asg rfl <| .nil) rfl ?_
        refine .leT 4 (.own 2000009) rfl .sl ?_
        refine .giveE 4 rfl rfl rfl ?_
        cases h
        refine .retG (fun _ _ hb => hb) rfl (.cons (.tmp rfl) (.cons (.tmp rfl) .nil)) (.refl _) trivial trivial
end
end Go.Am
namespace Go.Am
open Go.RowKit
set_option maxRecDepth 100000
noncomputable section
def m_l_Small_l1 (a1 : List (List (Int × Int × Int))) (a2 : Int) (v5 : Int) : Option (St Int (Ex Unit Bool)) := (if (decide (v5 < (a1.length : Int))) = true then (if (decide (v5 ≤ a2)) = true then (ix a1 v5).bind fun v12 => (if (decide ((v12.length : Int) > a2)) = true then some (St.done (Ex.ret false)) else some (St.next (IntKind.i64.wrap (v5 + 1)))) else some (St.done (Ex.brk ()))) else some (St.done (Ex.brk ())))
def m_l_Small (a1 : List (List (Int × Int × Int))) (a2 : Int) : Option Bool := ((Loop (fun (s : Int) => m_l_Small_l1 a1 a2 s) 0).bind fun o6 => (match o6 with | Ex.brk () => some (Ex.brk ()) | Ex.ret r15 => some (Ex.ret r15))).bind fun o3 => (match o3 with | Ex.brk () => some (decide ((a1.length : Int) ≤ a2)) | Ex.ret r16 => some r16)
theorem C_l_Small {a1 : List (List (Int × Int × Int))} {a2 : Int} {r17 : Bool} (h : m_l_Small a1 a2 = some r17) : CtrG PP 104 [] [slcE (Enc.slice (Enc.prod (Enc.int .i64) (Enc.prod (Enc.int .i64) (Enc.int .u8)))) a1, D.int .i64 a2] [] (D.bool r17) := by
  unfold m_l_Small at h
  refine .of Go.Proofs.Tryz.func104 rfl (by kernel_rfl) rfl rfl rfl rfl rfl rfl (fun A w0 L b => ?_)
  show Ok PP _ [(0, slcE (Enc.slice (Enc.prod (Enc.int .i64) (Enc.prod (Enc.int .i64) (Enc.int .u8)))) a1), (1, D.int .i64 a2)] [] _ _
  refine .reg (.asg rfl <| .nil) rfl ?_
  obtain ⟨o3, hp4, h⟩ := bind_some h
  refine .cutX (fun i => o3 = Ex.brk i) (fun (i : Unit) => [(0, slcE (Enc.slice (Enc.prod (Enc.int .i64) (Enc.prod (Enc.int .i64) (Enc.int .u8)))) a1), (1, D.int .i64 a2)]) (fun (i : Unit) => []) ?_ ?_
  · have ho1 := h
    clear h
    have h := hp4
    clear hp4
    refine .reg (.asg rfl <| .nil) rfl ?_
    obtain ⟨o6, hl7, h⟩ := bind_some h
    have ho2 := h
    clear h
    refine .block (.loopL (fun (s : Int) => [(0, slcE (Enc.slice (Enc.prod (Enc.int .i64) (Enc.prod (Enc.int .i64) (Enc.int .u8)))) a1), (1, D.int .i64 a2), (5, D.int .i64 s)]) (fun (s : Int) => []) hl7 ⟨⟨_, rfl, .refl _⟩, ⟨_, rfl, .refl _⟩, ⟨_, rfl, .refl _⟩, trivial⟩ trivial rfl rfl ?_)
    rintro v5 st8 hb9
    have h : m_l_Small_l1 a1 a2 v5 = some st8 := hb9
    clear hb9
    unfold m_l_Small_l1 at h
    show Ok PP _ [(0, slcE (Enc.slice (Enc.prod (Enc.int .i64) (Enc.prod (Enc.int .i64) (Enc.int .u8)))) a1), (1, D.int .i64 a2), (5, D.int .i64 v5)] [] _ _
    refine .sq ?_
    by_cases c10 : (decide (v5 < (a1.length : Int))) = true
    · replace h := ite_pos_some c10 h
      refine .reg (.mv rfl <| .mv rfl <| .lnE rfl is_LLamblelaw01_Num <| .cm rfl rfl rfl <| .mv rfl <| .gYt rfl rfl rfl c10 <| .mv rfl <| .gYt rfl rfl rfl c10 <| .mv rfl <| .gYt rfl rfl rfl c10 <| .cm rfl rfl rfl <| .pkTb rfl c10 rfl <| .nil) rfl ?_
      by_cases c11 : (decide (v5 ≤ a2)) = true
      · replace h := ite_pos_some c11 h
        refine .cTb rfl c11 ?_
        refine .skip (Ok.on ?_)
        refine .sq ?_
        refine .block ?_
        obtain ⟨v12, e13, h⟩ := bind_some h
        refine .reg (.mv rfl <| .mv rfl <| .ixE rfl rfl se_LLamblelaw01_Num (ix_some e13).1 (ix_some e13).2 <| .lp1 rfl ly_Lamblelaw01_Num <| .lnE rfl is_Lamblelaw01_Num <| .mv rfl <| .cm rfl rfl rfl <| .nil) rfl ?_
        by_cases c14 : (decide ((v12.length : Int) > a2)) = true
        · replace h := ite_pos_some c14 h
          refine .cTb rfl c14 ?_
          refine .reg (.asg rfl <| .nil) rfl ?_
          refine .retG (Hi := []) (Ho := []) (b := b) (fn := Go.Proofs.Tryz.f104) (d := D.bool false) (fun _ _ hb => by exact ⟨_, (Option.some.inj h).symm, fun e => by subst e; have h := ho2; cases h; have h := ho1; cases h; exact hb⟩) rfl (.cons (.tmp rfl) .nil) (.refl _) trivial trivial
        · replace h := ite_neg_some c14 h
          refine .cFb rfl c14 ?_
          refine .skip (Ok.on ?_)
          refine .region (.mv rfl <| .ar rfl rfl rfl <| .asg rfl <| .nil) rfl (fun _ _ hs => ⟨(IntKind.i64.wrap (v5 + 1)), (Option.some.inj h).symm, hs.sub ⟨⟨_, rfl, .refl _⟩, ⟨_, rfl, .refl _⟩, ⟨_, rfl, .refl _⟩, trivial⟩ trivial rfl rfl⟩)
      · replace h := ite_neg_some c11 h
        refine .cFb rfl c11 ?_
        refine .exit (fun a w hs => ⟨_, (Option.some.inj h).symm, fun e => by subst e; have h := ho2; exact blk_exit (⟨(), (Option.some.inj h).symm, hs.sub ⟨⟨_, rfl, .refl _⟩, ⟨_, rfl, .refl _⟩, trivial⟩ trivial rfl rfl⟩)⟩)
    · replace h := ite_neg_some c10 h
      refine .reg (.mv rfl <| .mv rfl <| .lnE rfl is_LLamblelaw01_Num <| .cm rfl rfl rfl <| .mv rfl <| .gNt rfl rfl rfl c10 <| .gNt rfl rfl rfl c10 <| .gNt rfl rfl rfl c10 <| .pkFb rfl c10 rfl <| .nil) rfl ?_
      refine .cFb rfl (by decide) ?_
      refine .exit (fun a w hs => ⟨_, (Option.some.inj h).symm, fun e => by subst e; have h := ho2; exact blk_exit (⟨(), (Option.some.inj h).symm, hs.sub ⟨⟨_, rfl, .refl _⟩, ⟨_, rfl, .refl _⟩, trivial⟩ trivial rfl rfl⟩)⟩)
  · rintro ⟨⟩ rfl
    show Ok PP _ [(0, slcE (Enc.slice (Enc.prod (Enc.int .i64) (Enc.prod (Enc.int .i64) (Enc.int .u8)))) a1), (1, D.int .i64 a2)] [] _ _
    refine .reg (.mv rfl <| .lnE rfl is_LLamblelaw01_Num <| .mv rfl <| .cm rfl rfl rfl <| .asg rfl <| .nil) rfl ?_
    cases h
    refine .retG (fun _ _ hb => hb) rfl (.cons (.tmp rfl) .nil) (.refl _) trivial trivial
def m_l_Mat_l1 (a1 : List (List (Int × Int × Int))) (v4 : Int) (v5 : List (List Rat)) (v6 : List (List Rat)) : Option (St (Int × (List (List Rat)) × (List (List Rat))) ((List (List Rat)) × (List (List Rat)))) := (if (decide (v4 < (a1.length : Int))) = true then (ix a1 v4).bind fun v12 => (m_l_List v12).bind fun (v14, v15) => must ((v5.length + ([v14]).length) * 24 ≤ 140737488355328 ∧ v5.length + ([v14]).length ≤ 9223372036854775807) (must ((v6.length + ([v15]).length) * 24 ≤ 140737488355328 ∧ v6.length + ([v15]).length ≤ 9223372036854775807) (some (St.next ((IntKind.i64.wrap (v4 + 1)), (v5 ++ [v14]), (v6 ++ [v15]))))) else some (St.done (v5, v6)))
def m_l_Mat (a1 : List (List (Int × Int × Int))) : Option ((List (List Rat)) × (List (List Rat))) := ((Loop (fun (s : Int × (List (List Rat)) × (List (List Rat))) => m_l_Mat_l1 a1 s.1 s.2.1 s.2.2) (0, [], [])).bind fun (v19, v20) => some ((v19, v20))).bind fun (v21, v22) => some (v21, v22)
theorem C_l_Mat {a1 : List (List (Int × Int × Int))} {r23 : List (List Rat)} {r24 : List (List Rat)} (h : m_l_Mat a1 = some (r23, r24)) : CtrG PP 105 [] [slcE (Enc.slice (Enc.prod (Enc.int .i64) (Enc.prod (Enc.int .i64) (Enc.int .u8)))) a1] [] (D.tup [slcE (Enc.slice Enc.rat) r23, slcE (Enc.slice Enc.rq) r24]) := by
  unfold m_l_Mat at h
  refine .of Go.Proofs.Tryz.func105 rfl (by kernel_rfl) rfl rfl rfl rfl rfl rfl (fun A w0 L b => ?_)
  show Ok PP _ [(0, slcE (Enc.slice (Enc.prod (Enc.int .i64) (Enc.prod (Enc.int .i64) (Enc.int .u8)))) a1)] [] _ _
  refine .reg (.asg rfl <| .asg rfl <| .nil) rfl ?_
  refine .reg (.asg rfl <| .nil) rfl ?_
  refine .reg (.asg rfl <| .nil) rfl ?_
  obtain ⟨o2, hp3, h⟩ := bind_some h
  refine .cutX (fun i => o2 = i) (fun (i : (List (List Rat)) × (List (List Rat))) => [(4, D.own 2000004), (5, D.own 2000005)]) (fun (i : (List (List Rat)) × (List (List Rat))) => [(2000004, rowE (Enc.slice Enc.rat) 68 i.1), (2000005, rowE (Enc.slice Enc.rq) 69 i.2)]) ?_ ?_
  · have ho1 := h
    clear h
    have h := hp3
    clear hp3
    refine .reg (.asg rfl <| .nil) rfl ?_
    refine .nilE (Enc.slice Enc.rat) 4 2000004 68 rfl rfl ?_
    refine .nilE (Enc.slice Enc.rq) 5 2000005 69 rfl rfl ?_
    obtain ⟨o7, hl8, h⟩ := bind_some h
    have ho2 := h
    clear h
    refine .block (.loopL (fun (s : Int × (List (List Rat)) × (List (List Rat))) => [(0, slcE (Enc.slice (Enc.prod (Enc.int .i64) (Enc.prod (Enc.int .i64) (Enc.int .u8)))) a1), (4, D.own 2000004), (5, D.own 2000005), (6, D.int .i64 s.1)]) (fun (s : Int × (List (List Rat)) × (List (List Rat))) => [(2000004, rowE (Enc.slice Enc.rat) 68 s.2.1), (2000005, rowE (Enc.slice Enc.rq) 69 s.2.2)]) hl8 ⟨⟨_, rfl, .refl _⟩, ⟨_, rfl, .refl _⟩, ⟨_, rfl, .refl _⟩, ⟨_, rfl, .refl _⟩, trivial⟩ ⟨⟨_, rfl, .refl _⟩, ⟨_, rfl, .refl _⟩, trivial⟩ rfl rfl ?_)
    rintro ⟨v4, v5, v6⟩ st9 hb10
    have h : m_l_Mat_l1 a1 v4 v5 v6 = some st9 := hb10
    clear hb10
    unfold m_l_Mat_l1 at h
    show Ok PP _ [(0, slcE (Enc.slice (Enc.prod (Enc.int .i64) (Enc.prod (Enc.int .i64) (Enc.int .u8)))) a1), (4, D.own 2000004), (5, D.own 2000005), (6, D.int .i64 v4)] [(2000004, rowE (Enc.slice Enc.rat) 68 v5), (2000005, rowE (Enc.slice Enc.rq) 69 v6)] _ _
    refine .sq ?_
    refine .reg (.mv rfl <| .mv rfl <| .lnE rfl is_LLamblelaw01_Num <| .cm rfl rfl rfl <| .nil) rfl ?_
    by_cases c11 : (decide (v4 < (a1.length : Int))) = true
    · replace h := ite_pos_some c11 h
      refine .cTb rfl c11 ?_
      refine .skip (Ok.on ?_)
      refine .sq ?_
      refine .block ?_
      obtain ⟨v12, e13, h⟩ := bind_some h
      obtain ⟨⟨v14, v15⟩, e16, h⟩ := bind_some h
      refine .reg (.mv rfl <| .mv rfl <| .ixE rfl rfl se_LLamblelaw01_Num (ix_some e13).1 (ix_some e13).2 <| .lp1 rfl ly_Lamblelaw01_Num <| .callG (C_l_List e16) ⟨rfl, trivial⟩ trivial trivial <| .mv rfl <| .ext rfl rfl <| .ext rfl rfl <| .asg rfl <| .asg rfl <| .nil) rfl ?_
      refine .sl 4 rfl rfl rfl ?_
      obtain ⟨k17, h⟩ := must_some h
      refine .reg (.mv rfl <| .mv rfl <| .blQ (e := (Enc.slice Enc.rat)) [v14] [(0, _, slcE Enc.rat v14, [slcE Enc.rat v14])] mk_exact_Mat rfl rfl rfl ⟨rfl, rfl, .one rfl, rfl, trivial⟩ ⟨rfl, trivial⟩ rfl rfl <| .apD (ys := [v14]) rfl .sl rfl (.refl _) rfl mk_exact_Mat rfl k17.1 k17.2 rfl <| .asg rfl <| .nil) rfl ?_
      refine .sl 5 rfl rfl rfl ?_
      obtain ⟨k18, h⟩ := must_some h
      refine .region (.mv rfl <| .mv rfl <| .blQ (e := (Enc.slice Enc.rq)) [v15] [(0, _, slcE Enc.rq v15, [slcE Enc.rq v15])] mk_ambleref01_Mat rfl rfl rfl ⟨rfl, rfl, .one rfl, rfl, trivial⟩ ⟨rfl, trivial⟩ rfl rfl <| .apD (ys := [v15]) rfl .sl rfl (.refl _) rfl mk_ambleref01_Mat rfl k18.1 k18.2 rfl <| .asg rfl <| .nil) rfl (Ok.on ?_)
      refine .region (.mv rfl <| .ar rfl rfl rfl <| .asg rfl <| .nil) rfl (fun _ _ hs => ⟨((IntKind.i64.wrap (v4 + 1)), (v5 ++ [v14]), (v6 ++ [v15])), (Option.some.inj h).symm, hs.subR (fun r => match r with | 2000004 => 26 | 2000005 => 30 | r => r) ⟨⟨_, rfl, .refl rfl⟩, ⟨_, rfl, .own (r := 2000004)⟩, ⟨_, rfl, .own (r := 2000005)⟩, ⟨_, rfl, .refl rfl⟩, trivial⟩ ⟨⟨_, rfl, .refl rfl⟩, ⟨_, rfl, .refl rfl⟩, trivial⟩ rfl rfl rfl⟩)
    · replace h := ite_neg_some c11 h
      refine .cFb rfl c11 ?_
      refine .exit (fun a w hs => ⟨_, (Option.some.inj h).symm, fun e => by subst e; have h := ho2; exact blk_exit (⟨(v5, v6), (Option.some.inj h).symm, hs.sub ⟨⟨_, rfl, .refl _⟩, ⟨_, rfl, .refl _⟩, trivial⟩ ⟨⟨_, rfl, .refl _⟩, ⟨_, rfl, .refl _⟩, trivial⟩ rfl rfl⟩)⟩)
  · rintro ⟨v21, v22⟩ rfl
    show Ok PP _ [(4, D.own 2000004), (5, D.own 2000005)] [(2000004, rowE (Enc.slice Enc.rat) 68 v21), (2000005, rowE (Enc.slice Enc.rq) 69 v22)] _ _
    refine .sl 4 rfl rfl rfl ?_
    refine .sl 5 rfl rfl rfl ?_
    refine .reg (.mv rfl <| .mv rfl <| .asg rfl <| .asg rfl <| .nil) rfl ?_
    refine .leT 2 (.own 2000004) rfl .sl ?_
    refine .giveE 2 rfl rfl rfl ?_
    refine .leT 3 (.own 2000005) rfl .sl ?_
    refine .giveE 3 rfl rfl rfl ?_
    cases h
    refine .retG (fun _ _ hb => hb) rfl (.cons (.tmp rfl) (.cons (.tmp rfl) .nil)) (.refl _) trivial trivial
def m_l_MatAlike_l1 (a1 : List (List Rat)) (a2 : List (List Rat)) (v6 : Int) : Option (St Int (Ex Unit Bool)) := (if (decide (v6 < (a1.length : Int))) = true then (ix a1 v6).bind fun v12 => (ix a2 v6).bind fun v14 => (m_l_Alike v12 v14).bind fun v16 => (if (!v16) = true then some (St.done (Ex.ret false)) else some (St.next (IntKind.i64.wrap (v6 + 1)))) else some (St.done (Ex.brk ())))
def m_l_MatAlike (a1 : List (List Rat)) (a2 : List (List Rat)) : Option Bool := (if ((a1.length : Int) != (a2.length : Int)) = true then some false else ((Loop (fun (s : Int) => m_l_MatAlike_l1 a1 a2 s) 0).bind fun o7 => (match o7 with | Ex.brk () => some (Ex.brk ()) | Ex.ret r19 => some (Ex.ret r19))).bind fun o4 => (match o4 with | Ex.brk () => some true | Ex.ret r20 => some r20))
theorem C_l_MatAlike {a1 : List (List Rat)} {a2 : List (List Rat)} {r21 : Bool} (h : m_l_MatAlike a1 a2 = some r21) : CtrG PP 110 [] [slcE (Enc.slice Enc.rat) a1, slcE (Enc.slice Enc.rq) a2] [] (D.bool r21) := by
  unfold m_l_MatAlike at h
  refine .of Go.Proofs.Tryz.func110 rfl (by kernel_rfl) rfl rfl rfl rfl rfl rfl (fun A w0 L b => ?_)
  show Ok PP _ [(0, slcE (Enc.slice Enc.rat) a1), (1, slcE (Enc.slice Enc.rq) a2)] [] _ _
  refine .reg (.asg rfl <| .nil) rfl ?_
  refine .sq ?_
  refine .reg (.mv rfl <| .lnE rfl is_exact_Mat <| .mv rfl <| .lnE rfl is_ambleref01_Mat <| .cm rfl rfl rfl <| .nil) rfl ?_
  by_cases c3 : ((a1.length : Int) != (a2.length : Int)) = true
  · replace h := ite_pos_some c3 h
    refine .cTb rfl c3 ?_
    refine .reg (.asg rfl <| .nil) rfl ?_
    cases h
    refine .retG (fun _ _ hb => hb) rfl (.cons (.tmp rfl) .nil) (.refl _) trivial trivial
  · replace h := ite_neg_some c3 h
    refine .cFb rfl c3 ?_
    refine .skip (Ok.on ?_)
    obtain ⟨o4, hp5, h⟩ := bind_some h
    refine .cutX (fun i => o4 = Ex.brk i) (fun (i : Unit) => []) (fun (i : Unit) => []) ?_ ?_
    · have ho1 := h
      clear h
      have h := hp5
      clear hp5
      refine .reg (.asg rfl <| .nil) rfl ?_
      obtain ⟨o7, hl8, h⟩ := bind_some h
      have ho2 := h
      clear h
      refine .block (.loopL (fun (s : Int) => [(0, slcE (Enc.slice Enc.rat) a1), (1, slcE (Enc.slice Enc.rq) a2), (5, D.int .i64 s)]) (fun (s : Int) => []) hl8 ⟨⟨_, rfl, .refl _⟩, ⟨_, rfl, .refl _⟩, ⟨_, rfl, .refl _⟩, trivial⟩ trivial rfl rfl ?_)
      rintro v6 st9 hb10
      have h : m_l_MatAlike_l1 a1 a2 v6 = some st9 := hb10
      clear hb10
      unfold m_l_MatAlike_l1 at h
      show Ok PP _ [(0, slcE (Enc.slice Enc.rat) a1), (1, slcE (Enc.slice Enc.rq) a2), (5, D.int .i64 v6)] [] _ _
      refine .sq ?_
      refine .reg (.mv rfl <| .mv rfl <| .lnE rfl is_exact_Mat <| .cm rfl rfl rfl <| .nil) rfl ?_
      by_cases c11 : (decide (v6 < (a1.length : Int))) = true
      · replace h := ite_pos_some c11 h
        refine .cTb rfl c11 ?_
        refine .skip (Ok.on ?_)
        refine .sq ?_
        refine .block ?_
        obtain ⟨v12, e13, h⟩ := bind_some h
        obtain ⟨v14, e15, h⟩ := bind_some h
        obtain ⟨v16, e17, h⟩ := bind_some h
        refine .regD hmix (.mv rfl <| .mv rfl <| .ixE rfl rfl se_exact_Mat (ix_some e13).1 (ix_some e13).2 <| .lp1 rfl ly_Lexact_Q <| .mv rfl <| .mv rfl <| .ixE rfl rfl se_ambleref01_Mat (ix_some e15).1 (ix_some e15).2 <| .lp1 rfl ly_Lambleref01_Q <| .callG (C_l_Alike e17) ⟨rfl, rfl, trivial⟩ trivial trivial <| .not rfl <| .nil) rfl (by kernel_rfl) ?_
        by_cases c18 : (!v16) = true
        · replace h := ite_pos_some c18 h
          refine .cTb rfl c18 ?_
          refine .reg (.asg rfl <| .nil) rfl ?_
          refine .retG (Hi := []) (Ho := []) (b := b) (fn := Go.Proofs.Tryz.f110) (d := D.bool false) (fun _ _ hb => by exact ⟨_, (Option.some.inj h).symm, fun e => by subst e; have h := ho2; cases h; have h := ho1; cases h; exact hb⟩) rfl (.cons (.tmp rfl) .nil) (.refl _) trivial trivial
        · replace h := ite_neg_some c18 h
          refine .cFb rfl c18 ?_
          refine .skip (Ok.on ?_)
          refine .region (.mv rfl <| .ar rfl rfl rfl <| .asg rfl <| .nil) rfl (fun _ _ hs => ⟨(IntKind.i64.wrap (v6 + 1)), (Option.some.inj h).symm, hs.sub ⟨⟨_, rfl, .refl _⟩, ⟨_, rfl, .refl _⟩, ⟨_, rfl, .refl _⟩, trivial⟩ trivial rfl rfl⟩)
      · replace h := ite_neg_some c11 h
        refine .cFb rfl c11 ?_
        refine .exit (fun a w hs => ⟨_, (Option.some.inj h).symm, fun e => by subst e; have h := ho2; exact blk_exit (⟨(), (Option.some.inj h).symm, hs.sub trivial trivial rfl rfl⟩)⟩)
    · rintro ⟨⟩ rfl
      show Ok PP _ [] [] _ _
      refine .reg (.asg rfl <| .nil) rfl ?_
      cases h
      refine .retG (fun _ _ hb => hb) rfl (.cons (.tmp rfl) .nil) (.refl _) trivial trivial
end
end Go.Am
namespace Go.Am
theorem for_run {σ ρ : Type} {body : Int × σ → Option (St (Int × σ) ρ)} (n : Nat) (F : Nat → σ) (r : ρ) (hb : ∀ i, i < n → body ((i : Int), F i) = some (.next (((i + 1 : Nat) : Int), F (i + 1)))) (he : body ((n : Int), F n) = some (.done r)) : Loop body ((0 : Int), F 0) = some r := by
  obtain ⟨r', hr, rfl⟩ := Loop_run (body := body) ((0 : Int), F 0) (fun s => ∃ i : Nat, i ≤ n ∧ s = ((i : Int), F i)) (fun s => (n - s.1).toNat) (fun r' => r' = r) ⟨0, Nat.zero_le _, rfl⟩ (by
    rintro s ⟨i, hi, rfl⟩
    by_cases hlt : i < n
    · left
      exact ⟨_, hb i hlt, ⟨i + 1, hlt, rfl⟩, by simp only; omega⟩
    · right
      have : i = n := by omega
      subst this
      exact ⟨_, he, rfl⟩)
  exact hr
theorem for_run0 {ρ : Type} {body : Int → Option (St Int ρ)} (n : Nat) (r : ρ) (hb : ∀ i : Nat, i < n → body (i : Int) = some (.next ((i + 1 : Nat) : Int))) (he : body (n : Int) = some (.done r)) : Loop body (0 : Int) = some r := by
  obtain ⟨r', hr, rfl⟩ := Loop_run (body := body) (0 : Int) (fun s => ∃ i : Nat, i ≤ n ∧ s = (i : Int)) (fun s => (n - s).toNat) (fun r' => r' = r) ⟨0, Nat.zero_le _, rfl⟩ (by
    rintro s ⟨i, hi, rfl⟩
    by_cases hlt : i < n
    · left
      exact ⟨_, hb i hlt, ⟨i + 1, hlt, rfl⟩, by omega⟩
    · right
      have : i = n := by omega
      subst this
      exact ⟨_, he, rfl⟩)
  exact hr
def grid (n m : Nat) (f : Nat → Nat → Rat) : List (List Rat) := (List.range n).map fun k => (List.range m).map (f k)
theorem grid_len {n m : Nat} {f : Nat → Nat → Rat} : (grid n m f).length = n := by simp [grid]
theorem grid_ix {n m : Nat} {f : Nat → Nat → Rat} {k : Nat} (h : k < n) : ix (grid n m f) (k : Int) = some ((List.range m).map (f k)) := by
  rw [ix_get (by rw [grid_len]; exact h)]
  simp [grid]
theorem row_ix {m : Nat} {g : Nat → Rat} {j : Nat} (h : j < m) : ix ((List.range m).map g) (j : Int) = some (g j) := by
  rw [ix_get (by simpa using h)]
  simp
theorem grid_congr {n m : Nat} {f g : Nat → Nat → Rat} (h : ∀ k j, k < n → j < m → f k j = g k j) : grid n m f = grid n m g := by
  unfold grid
  apply List.map_congr_left
  intro k hk
  apply List.map_congr_left
  intro j hj
  exact h k j (by simpa using hk) (by simpa using hj)
theorem grid_set {n m : Nat} {f : Nat → Nat → Rat} {k j : Nat} {v : Rat} : (grid n m f).set ((k : Int).toNat) (((List.range m).map (f k)).set ((j : Int).toNat) v) = grid n m (fun k' j' => if k' = k ∧ j' = j then v else f k' j') := by
  rw [Int.toNat_natCast, Int.toNat_natCast]
  apply List.ext_getElem
  · simp [grid]
  · intro a h1 h2
    rw [List.length_set, grid_len] at h1
    by_cases ha : a = k
    · subst ha
      rw [List.getElem_set_self]
      simp only [grid, List.getElem_map, List.getElem_range]
      apply List.ext_getElem
      · simp
      · intro b h3 h4
        by_cases hb : b = j
        · subst hb
          rw [List.getElem_set_self]; simp
        · rw [List.getElem_set_ne (Ne.symm hb)]; simp [hb]
    · rw [List.getElem_set_ne (Ne.symm ha)]
      simp only [grid, List.getElem_map, List.getElem_range]
      apply List.map_congr_left
      intro b _
      simp [ha]
theorem zeros_grid (n m : Nat) : List.replicate n (List.replicate m (0 : Rat)) = grid n m (fun _ _ => 0) := by
  apply List.ext_getElem
  · simp [grid]
  · intro k h1 h2
    simp only [grid, List.getElem_replicate, List.getElem_map, List.getElem_range]
    apply List.ext_getElem
    · simp
    · intro j h3 h4; simp
def cols (M : List (List Rat)) : Nat := (M.getD 0 []).length
def right (M : List (List Rat)) : Bool := M.all fun r => r.length == cols M
def ent (M : List (List Rat)) (i j : Nat) : Rat := (M.getD i []).getD j 0
def bd (M : List (List Rat)) (b : Nat) : Prop := ∀ r ∈ M, ∀ x ∈ r, sz x ≤ b
theorem right_len {M : List (List Rat)} (h : right M = true) {i : Nat} (hi : i < M.length) : (M[i]).length = cols M := by
  unfold right at h
  rw [List.all_eq_true] at h
  simpa using h M[i] (List.getElem_mem hi)
theorem ent_get {M : List (List Rat)} {i j : Nat} (hi : i < M.length) (hj : j < (M[i]).length) : ent M i j = (M[i])[j] := by
  unfold ent
  rw [getD_lt hi, getD_lt hj]
theorem bd_ent {M : List (List Rat)} {b : Nat} (h : bd M b) (hb : 1 ≤ b) (i j : Nat) : sz (ent M i j) ≤ b := by
  unfold ent
  by_cases hi : i < M.length
  · rw [getD_lt hi]
    by_cases hj : j < (M[i]).length
    · rw [getD_lt hj]
      exact h _ (List.getElem_mem hi) _ (List.getElem_mem hj)
    · rw [getD_ge (by omega)]
      exact Nat.le_trans (by decide) hb
  · have e : M.getD i [] = [] := getD_ge (by omega)
    rw [e]
    exact Nat.le_trans (show sz (([] : List Rat).getD j 0) ≤ 1 by rw [getD_ge (by simp)]; decide) hb
theorem cols0 {M : List (List Rat)} (h : 0 < M.length) : cols M = (M[0]).length := by unfold cols; rw [getD_lt h]
theorem not_right {M : List (List Rat)} {i : Nat} (hi : i < M.length) (h : (M[i]).length ≠ cols M) : right M = false := by
  cases hq : right M with
  | false => rfl
  | true => exact absurd (right_len hq hi) h
theorem right_of {M : List (List Rat)} (h : ∀ i (hi : i < M.length), (M[i]).length = cols M) : right M = true := by
  unfold right
  rw [List.all_eq_true]
  intro r hr
  obtain ⟨i, hi, rfl⟩ := List.getElem_of_mem hr
  simpa using h i hi
theorem Right_is (M : List (List Rat)) (hM : M.length ≤ 30) : m_r_Right M = some (if right M then ((cols M : Int), true) else (0, false)) := by
  obtain ⟨r, hr, hp⟩ := Loop_run (body := fun (s : Int × Int) => m_r_Right_l1 M s.1 s.2) (0, 0) (fun s => ∃ i : Nat, i ≤ M.length ∧ s = ((if i = 0 then 0 else (cols M : Int)), (i : Int)) ∧ ∀ k (hk : k < M.length), k < i → (M[k]).length = cols M) (fun s => (M.length - s.2).toNat)
    (fun r => (right M = false ∧ r = Ex.ret (0, false)) ∨ (right M = true ∧ r = Ex.brk (cols M : Int))) ⟨0, Nat.zero_le _, rfl, fun k _ hk => by omega⟩ (by
    rintro s ⟨i, hi, rfl, hall⟩
    simp only
    unfold m_r_Right_l1
    by_cases hlt : i < M.length
    · rw [if_pos (decide_eq_true (by omega)), ix_get hlt]
      have hc := cols0 (M := M) (by omega)
      have e : (if ((i : Int) == 0) = true then (some M[i]).bind fun v14 => some ((v14.length : Int)) else some (if i = 0 then 0 else (cols M : Int))) = some (cols M : Int) := by
        by_cases h0 : i = 0
        · subst h0; simp [hc]
        · rw [if_neg (by simpa using h0), if_neg h0]
      rw [e]
      simp only [Option.bind_some]
      by_cases hq : (M[i]).length = cols M
      · left
        rw [hq, if_neg (by simp)]
        refine ⟨_, rfl, ⟨i + 1, hlt, ?_, fun k hk hki => ?_⟩, by simp only; rw [wrap1 hlt (by omega)]; omega⟩
        · rw [wrap1 hlt (by omega)]; simp
        · by_cases e : k = i
          · subst e; exact hq
          · exact hall k hk (by omega)
      · right
        rw [if_pos (by simp; omega)]
        exact ⟨_, rfl, .inl ⟨not_right hlt hq, rfl⟩⟩
    · right
      rw [if_neg (by simp; omega)]
      have hil : i = M.length := by omega
      refine ⟨_, rfl, .inr ⟨right_of (fun k hk => hall k hk (by omega)), ?_⟩⟩
      by_cases h0 : i = 0
      · rw [if_pos h0]
        have : cols M = 0 := by unfold cols; rw [getD_ge (by omega)]; rfl
        rw [this]; rfl
      · rw [if_neg h0])
  unfold m_r_Right
  rw [hr]
  rcases hp with ⟨h1, rfl⟩ | ⟨h1, rfl⟩ <;> rw [h1] <;> rfl
theorem size_is (M : List (List Rat)) (hM : M.length ≤ 30) : m_Mat_size M = some ((M.length : Int), (cols M : Int), right M) := by
  unfold m_Mat_size
  by_cases h0 : M = []
  · subst h0; rfl
  have hl : 0 < M.length := List.length_pos_iff.2 h0
  rw [if_neg (by simpa using h0)]
  have e0 : ix M 0 = some M[0] := ix_get (n := 0) hl
  rw [e0]
  simp only [Option.bind_some]
  obtain ⟨r, hr, hp⟩ := Loop_run (body := fun (s : Int) => m_IndexFunc_size_l1 M ((M[0]).length : Int) s) 0 (fun s => ∃ i : Nat, i ≤ M.length ∧ s = (i : Int) ∧ ∀ k (hk : k < M.length), k < i → (M[k]).length = cols M) (fun s => (M.length - s).toNat)
    (fun r => (right M = false ∧ ∃ j : Int, 0 ≤ j ∧ r = Ex.ret j) ∨ (right M = true ∧ r = Ex.brk ())) ⟨0, Nat.zero_le _, rfl, fun k _ hk => by omega⟩ (by
    rintro s ⟨i, hi, rfl, hall⟩
    unfold m_IndexFunc_size_l1 m_Mat_size_1
    by_cases hlt : i < M.length
    · rw [if_pos (decide_eq_true (by omega)), ix_get hlt, ← cols0 hl]
      simp only [Option.bind_some]
      by_cases hq : (M[i]).length = cols M
      · left
        rw [hq, if_neg (by simp)]
        refine ⟨_, rfl, ⟨i + 1, hlt, wrap1 hlt (by omega), fun k hk hki => ?_⟩, by rw [wrap1 hlt (by omega)]; omega⟩
        by_cases e : k = i
        · subst e; exact hq
        · exact hall k hk (by omega)
      · right
        rw [if_pos (by simp; omega)]
        exact ⟨_, rfl, .inl ⟨not_right hlt hq, _, by omega, rfl⟩⟩
    · right
      rw [if_neg (by simp; omega)]
      exact ⟨_, rfl, .inr ⟨right_of (fun k hk => hall k hk (by omega)), rfl⟩⟩)
  unfold m_ContainsFunc_size m_IndexFunc_size
  rw [hr, ← cols0 hl]
  rcases hp with ⟨h1, j, hj, rfl⟩ | ⟨h1, rfl⟩
  · rw [h1]
    have : decide (j ≥ 0) = true := decide_eq_true hj
    simp only [Option.bind_some, this]
    rfl
  · rw [h1]; rfl
def dotN (g h : Nat → Rat) : Nat → Rat
  | 0 => 0
  | j + 1 => dotN g h j + g j * h j
theorem dotN_congr {g h g' h' : Nat → Rat} : ∀ {n : Nat}, (∀ j, j < n → g j = g' j ∧ h j = h' j) → dotN g h n = dotN g' h' n
  | 0, _ => rfl
  | n + 1, k => by
    have h1 := k n (by omega)
    unfold dotN
    rw [dotN_congr (fun j hj => k j (by omega)), h1.1, h1.2]
theorem dotN_sz {g h : Nat → Rat} {b : Nat} (hg : ∀ j, sz (g j) ≤ b) (hh : ∀ j, sz (h j) ≤ b) : ∀ n, sz (dotN g h n) ≤ 1 + n * (2 * b + 2)
  | 0 => by
    have : sz (0 : Rat) ≤ 1 := by decide
    show sz (0 : Rat) ≤ _
    omega
  | n + 1 => by
    have h1 := dotN_sz hg hh n
    have h2 := sz_add (dotN g h n) (g n * h n)
    have h3 := sz_mul (g n) (h n)
    have h4 := hg n
    have h5 := hh n
    unfold dotN
    rw [Nat.succ_mul]
    omega
theorem dot_is {a c : List Rat} {b : Nat} (hl : a.length ≤ 30) (hc : a.length ≤ c.length) (ha : ∀ j, sz (a.getD j 0) ≤ b) (hh : ∀ j, sz (c.getD j 0) ≤ b) (hb : b ≤ 1000000) : m_dot a c = some (dotN (fun j => a.getD j 0) (fun j => c.getD j 0) a.length) ∧ m_r_DotRow a c = some (dotN (fun j => a.getD j 0) (fun j => c.getD j 0) a.length) := by
  have key : ∀ i : Nat, i < a.length → m_dot_l1 a c (i : Int) (dotN (fun j => a.getD j 0) (fun j => c.getD j 0) i) = some (.next (((i + 1 : Nat) : Int), dotN (fun j => a.getD j 0) (fun j => c.getD j 0) (i + 1))) := by
    intro i hi
    unfold m_dot_l1
    rw [if_pos (decide_eq_true (by omega)), ixD a 0 i hi, ixD c 0 i (by omega), wrap1 hi (by omega)]
    haveI : Bd (a.getD i 0) 1000000 := ⟨Nat.le_trans (ha i) hb⟩
    haveI : Bd (c.getD i 0) 1000000 := ⟨Nat.le_trans (hh i) hb⟩
    haveI : Bd (dotN (fun j => a.getD j 0) (fun j => c.getD j 0) i) 100000000 := ⟨by
      have := dotN_sz (g := fun j => a.getD j 0) (h := fun j => c.getD j 0) ha hh i
      have h2 : i * (2 * b + 2) ≤ 30 * (2 * 1000000 + 2) := Nat.mul_le_mul (by omega) (by omega)
      omega⟩
    simp only [Option.bind_some, q_mulB, q_addB, Nat.reduceAdd, Nat.reduceLeDiff]
    rfl
  have he : m_dot_l1 a c (a.length : Int) (dotN (fun j => a.getD j 0) (fun j => c.getD j 0) a.length) = some (.done (dotN (fun j => a.getD j 0) (fun j => c.getD j 0) a.length)) := by
    unfold m_dot_l1
    rw [if_neg (by simp)]
  have hL := for_run (body := fun (s : Int × Rat) => m_dot_l1 a c s.1 s.2) a.length (dotN (fun j => a.getD j 0) (fun j => c.getD j 0)) _ key he
  constructor
  · unfold m_dot
    have : Loop (fun (s : Int × Rat) => m_dot_l1 a c s.1 s.2) (0, 0) = some (dotN (fun j => a.getD j 0) (fun j => c.getD j 0) a.length) := hL
    rw [this]; rfl
  · unfold m_r_DotRow
    have : Loop (fun (s : Int × Rat) => m_r_DotRow_l1 a c s.1 s.2) (0, 0) = some (dotN (fun j => a.getD j 0) (fun j => c.getD j 0) a.length) := hL
    rw [this]; rfl
end Go.Am
namespace Go.Am
theorem grid_succ {k m : Nat} {f : Nat → Nat → Rat} : grid (k + 1) m f = grid k m f ++ [(List.range m).map (f k)] := by
  unfold grid
  rw [List.range_succ, List.map_append]; rfl
theorem row_succ {m : Nat} {g : Nat → Rat} : (List.range (m + 1)).map g = (List.range m).map g ++ [g m] := by
  rw [List.range_succ, List.map_append]; rfl
theorem ent_ix {M : List (List Rat)} {i : Nat} (hi : i < M.length) : ix M (i : Int) = some M[i] := ix_get hi
theorem ent_ix2 {M : List (List Rat)} (h : right M = true) {i j : Nat} (hi : i < M.length) (hj : j < cols M) : ix M[i] (j : Int) = some (ent M i j) := by
  have hl : j < (M[i]).length := by rw [right_len h hi]; exact hj
  rw [ix_get hl, ent_get hi hl]
variable {M : List (List Rat)}
theorem Zeros_is (n m : Nat) (hn : n ≤ 30) (hm : m ≤ 30) : m_r_Zeros (n : Int) (m : Int) = some (grid n m fun _ _ => 0) := by
  have hL := for_run (body := fun (s : Int × (List (List Rat))) => m_r_Zeros_l1 (n : Int) (m : Int) s.1 s.2) n (fun i => List.replicate i (List.replicate m (0 : Rat))) (List.replicate n (List.replicate m (0 : Rat))) (fun i hi => by
      unfold m_r_Zeros_l1
      rw [if_pos (decide_eq_true (by omega)), must_eq (by omega), must_eq (by simp only [List.length_replicate]; omega), wrap1 hi (by omega)]
      rw [Int.toNat_natCast, List.replicate_succ', ]) (by
      unfold m_r_Zeros_l1
      rw [if_neg (by simp)])
  unfold m_r_Zeros
  have : Loop (fun (s : Int × (List (List Rat))) => m_r_Zeros_l1 (n : Int) (m : Int) s.1 s.2) (0, ([] : List (List Rat))) = some (List.replicate n (List.replicate m (0 : Rat))) := hL
  rw [this, zeros_grid]
  rfl
theorem turned_is (h : right M = true) (hl : M.length ≤ 30) (hc : cols M ≤ 30) : m_Mat_turned M = some (grid (cols M) M.length fun k i => ent M i k) := by
  unfold m_Mat_turned
  rw [size_is M hl]
  simp only [Option.bind_some]
  have hL := for_run (body := fun (s : Int × (List (List Rat))) => m_Mat_turned_l1 M (cols M : Int) s.1 s.2) (cols M) (fun k => grid k M.length fun k i => ent M i k) (grid (cols M) M.length fun k i => ent M i k) (fun k hk => by
      unfold m_Mat_turned_l1
      rw [if_pos (decide_eq_true (by omega))]
      have hI := for_run (body := fun (s : Int × (List Rat)) => m_Mat_turned_l2 M (k : Int) s.1 s.2) M.length (fun i => (List.range i).map fun i => ent M i k) ((List.range M.length).map fun i => ent M i k) (fun i hi => by
          unfold m_Mat_turned_l2
          rw [if_pos (decide_eq_true (by omega)), ent_ix hi]
          simp only [Option.bind_some]
          rw [ent_ix2 h hi hk]
          simp only [Option.bind_some]
          rw [must_eq (by simp only [List.length_map, List.length_range, List.length_singleton]; omega), wrap1 hi (by omega), row_succ]) (by
          unfold m_Mat_turned_l2
          rw [if_neg (by simp)])
      have : Loop (fun (s : Int × (List Rat)) => m_Mat_turned_l2 M (k : Int) s.1 s.2) (0, []) = some ((List.range M.length).map fun i => ent M i k) := hI
      rw [this]
      simp only [Option.bind_some]
      rw [must_eq (by simp only [grid_len, List.length_singleton]; omega), wrap1 hk (by omega), grid_succ]) (by
      unfold m_Mat_turned_l1
      rw [if_neg (by simp)])
  have : Loop (fun (s : Int × (List (List Rat))) => m_Mat_turned_l1 M (cols M : Int) s.1 s.2) (0, []) = some (grid (cols M) M.length fun k i => ent M i k) := hL
  rw [this]; rfl
theorem r_Trans_is (h : right M = true) (hl : M.length ≤ 30) (hc : cols M ≤ 30) : m_r_Trans M = some (grid (cols M) M.length fun k i => ent M i k) := by
  unfold m_r_Trans
  rw [Right_is M hl, h, if_pos rfl]
  simp only [Option.bind_some]
  rw [Zeros_is _ _ hc hl]
  simp only [Option.bind_some]
  have hL := for_run (body := fun (s : Int × (List (List Rat))) => m_r_Trans_l1 M (cols M : Int) s.1 s.2) M.length (fun i => grid (cols M) M.length fun k i' => if i' < i then ent M i' k else 0) (grid (cols M) M.length fun k i' => if i' < M.length then ent M i' k else 0) (fun i hi => by
      unfold m_r_Trans_l1
      rw [if_pos (decide_eq_true (by omega))]
      have hI := for_run (body := fun (s : Int × (List (List Rat))) => m_r_Trans_l2 M (cols M : Int) (i : Int) s.1 s.2) (cols M) (fun k => grid (cols M) M.length fun k' i' => if i' < i ∨ (i' = i ∧ k' < k) then ent M i' k' else 0) (grid (cols M) M.length fun k' i' => if i' < i ∨ (i' = i ∧ k' < cols M) then ent M i' k' else 0) (fun k hk => by
          unfold m_r_Trans_l2
          rw [if_pos (decide_eq_true (by omega)), grid_ix hk, ent_ix hi]
          simp only [Option.bind_some]
          rw [ent_ix2 h hi hk, row_ix hi]
          simp only [Option.bind_some]
          rw [grid_set, wrap1 hk (by omega)]
          rw [grid_congr (g := fun k' i' => if i' < i ∨ (i' = i ∧ k' < k + 1) then ent M i' k' else 0) (fun k' j' h1 h2 => by
            by_cases e1 : k' = k ∧ j' = i
            · rw [if_pos e1, if_pos (by omega), e1.1, e1.2]
            · rw [if_neg e1]
              by_cases e2 : j' < i ∨ j' = i ∧ k' < k
              · rw [if_pos e2, if_pos (by omega)]
              · rw [if_neg e2, if_neg (by omega)])]) (by
          unfold m_r_Trans_l2
          rw [if_neg (by simp)])
      have e0 : (grid (cols M) M.length fun k i' => if i' < i then ent M i' k else 0) = (grid (cols M) M.length fun k' i' => if i' < i ∨ (i' = i ∧ k' < 0) then ent M i' k' else 0) := grid_congr (fun k' j' _ _ => by simp)
      rw [e0]
      have : Loop (fun (s : Int × (List (List Rat))) => m_r_Trans_l2 M (cols M : Int) (i : Int) s.1 s.2) (0, (grid (cols M) M.length fun k' i' => if i' < i ∨ (i' = i ∧ k' < 0) then ent M i' k' else 0)) = _ := hI
      rw [this]
      simp only [Option.bind_some]
      rw [wrap1 hi (by omega), grid_congr (g := fun k i' => if i' < i + 1 then ent M i' k else 0) (fun k' j' h1 h2 => by
        by_cases e1 : j' < i + 1
        · rw [if_pos e1, if_pos (by omega)]
        · rw [if_neg e1, if_neg (by omega)])]) (by
      unfold m_r_Trans_l1
      rw [if_neg (by simp)])
  have e0 : (grid (cols M) M.length fun _ _ => (0 : Rat)) = grid (cols M) M.length fun k i' => if i' < 0 then ent M i' k else 0 := grid_congr (fun _ _ _ _ => by simp)
  rw [e0]
  have : Loop (fun (s : Int × (List (List Rat))) => m_r_Trans_l1 M (cols M : Int) s.1 s.2) (0, grid (cols M) M.length fun k i' => if i' < 0 then ent M i' k else 0) = _ := hL
  rw [this]
  simp only [Option.bind_some]
  rw [grid_congr (g := fun k i => ent M i k) (fun k' j' _ h2 => by rw [if_pos h2])]
end Go.Am
namespace Go.Am
open Go.RowKit
set_option maxRecDepth 100000
noncomputable section
def m_l_ExactMats (a1 : List (List (Int × Int × Int))) (a2 : List (List (Int × Int × Int))) (a3 : List (Int × Int × Int)) : Option Bool := (m_l_Small a1 5).bind fun v4 => (if (!v4) = true then (m_l_awake).bind fun v7 => some v7 else (m_l_Small a2 5).bind fun v9 => (if (!v9) = true then (m_l_awake).bind fun v12 => some v12 else (if (decide ((a3.length : Int) > 6)) = true then (m_l_awake).bind fun v15 => some v15 else (m_l_Mat a1).bind fun (v17, v18) => (m_l_Mat a2).bind fun (v20, v21) => (m_l_List a3).bind fun (v23, v24) => (m_r_Right v18).bind fun (v26, v27) => (m_r_Right v21).bind fun (v29, v30) => (m_Mul v17 v20).bind fun (v32, v33) => (m_Apply v17 v23).bind fun (v35, v36) => (m_Trans v17).bind fun (v38, v39) => (if (!v27) = true then (if (v33 == 2) = true then (if (v36 == 2) = true then (if (v39 == 2) = true then (if ((IntKind.i64.wrap ((IntKind.i64.wrap ((v32.length : Int) + (v35.length : Int))) + (v38.length : Int))) == 0) = true then (m_l_awake).bind fun v46 => some v46 else some false) else some false) else some false) else some false) else (if (v39 != 0) = true then some false else (m_r_Trans v18).bind fun v49 => (m_l_MatAlike v38 v49).bind fun v51 => (if (!v51) = true then some false else ((if (v26 != (v24.length : Int)) = true then (if (v36 != 2) = true then some (Ex.ret false) else (if ((v35.length : Int) != 0) = true then some (Ex.ret false) else some (Ex.brk ()))) else (if (v36 != 0) = true then some (Ex.ret false) else (m_r_Apply v18 v24).bind fun v60 => (m_l_Alike v35 v60).bind fun v62 => (if (!v62) = true then some (Ex.ret false) else some (Ex.brk ()))))).bind fun o54 => (match o54 with | Ex.brk () => (if (!v30) = true then (if (v33 == 2) = true then (if ((v32.length : Int) == 0) = true then (m_l_awake).bind fun v68 => some v68 else some false) else some false) else (if (v26 != (v21.length : Int)) = true then (if (v33 == 2) = true then (if ((v32.length : Int) == 0) = true then (m_l_awake).bind fun v73 => some v73 else some false) else some false) else (if (v33 == 0) = true then (m_r_MulMat v18 v21).bind fun v76 => (m_l_MatAlike v32 v76).bind fun v78 => (if v78 = true then (m_l_awake).bind fun v81 => some v81 else some false) else some false))) | Ex.ret r83 => some r83)))))))
theorem C_l_ExactMats {a1 : List (List (Int × Int × Int))} {a2 : List (List (Int × Int × Int))} {a3 : List (Int × Int × Int)} {r84 : Bool} (h : m_l_ExactMats a1 a2 a3 = some r84) : CtrG PP 14 [] [slcE (Enc.slice (Enc.prod (Enc.int .i64) (Enc.prod (Enc.int .i64) (Enc.int .u8)))) a1, slcE (Enc.slice (Enc.prod (Enc.int .i64) (Enc.prod (Enc.int .i64) (Enc.int .u8)))) a2, slcE (Enc.prod (Enc.int .i64) (Enc.prod (Enc.int .i64) (Enc.int .u8))) a3] [] (D.bool r84) := by
  unfold m_l_ExactMats at h
  refine .of Go.Proofs.Tryz.func14 rfl (by kernel_rfl) rfl rfl rfl rfl rfl rfl (fun A w0 L b => ?_)
  show Ok PP _ [(0, slcE (Enc.slice (Enc.prod (Enc.int .i64) (Enc.prod (Enc.int .i64) (Enc.int .u8)))) a1), (1, slcE (Enc.slice (Enc.prod (Enc.int .i64) (Enc.prod (Enc.int .i64) (Enc.int .u8)))) a2), (2, slcE (Enc.prod (Enc.int .i64) (Enc.prod (Enc.int .i64) (Enc.int .u8))) a3)] [] _ _
  refine .reg (.asg rfl <| .nil) rfl ?_
  refine .sq ?_
  obtain ⟨v4, e5, h⟩ := bind_some h
  by_cases c6 : (!v4) = true
  · replace h := ite_pos_some c6 h
    refine .reg (.mv rfl <| .callG (C_l_Small e5) ⟨rfl, rfl, trivial⟩ trivial trivial <| .not rfl <| .mv rfl <| .gNf rfl rfl rfl c6 <| .gNf rfl rfl rfl c6 <| .gNf rfl rfl rfl c6 <| .pkTb rfl c6 rfl <| .mv rfl <| .gNf rfl rfl rfl rfl <| .gNf rfl rfl rfl rfl <| .gNf rfl rfl rfl rfl <| .pkTb rfl rfl rfl <| .nil) rfl ?_
    refine .cTb rfl rfl ?_
    obtain ⟨v7, e8, h⟩ := bind_some h
    refine .reg (.callG (C_l_awake e8) trivial trivial trivial <| .asg rfl <| .nil) rfl ?_
    cases h
    refine .retG (fun _ _ hb => hb) rfl (.cons (.tmp rfl) .nil) (.refl _) trivial trivial
  · replace h := ite_neg_some c6 h
    obtain ⟨v9, e10, h⟩ := bind_some h
    by_cases c11 : (!v9) = true
    · replace h := ite_pos_some c11 h
      refine .reg (.mv rfl <| .callG (C_l_Small e5) ⟨rfl, rfl, trivial⟩ trivial trivial <| .not rfl <| .mv rfl <| .gYf rfl rfl rfl c6 <| .mv rfl <| .gYf rfl rfl rfl c6 <| .callG (C_l_Small e10) ⟨rfl, rfl, trivial⟩ trivial trivial <| .gYf rfl rfl rfl c6 <| .not rfl <| .pkFb rfl c6 rfl <| .mv rfl <| .gNf rfl rfl rfl c11 <| .gNf rfl rfl rfl c11 <| .gNf rfl rfl rfl c11 <| .pkTb rfl c11 rfl <| .nil) rfl ?_
      refine .cTb rfl rfl ?_
      obtain ⟨v12, e13, h⟩ := bind_some h
      refine .reg (.callG (C_l_awake e13) trivial trivial trivial <| .asg rfl <| .nil) rfl ?_
      cases h
      refine .retG (fun _ _ hb => hb) rfl (.cons (.tmp rfl) .nil) (.refl _) trivial trivial
    · replace h := ite_neg_some c11 h
      refine .reg (.mv rfl <| .callG (C_l_Small e5) ⟨rfl, rfl, trivial⟩ trivial trivial <| .not rfl <| .mv rfl <| .gYf rfl rfl rfl c6 <| .mv rfl <| .gYf rfl rfl rfl c6 <| .callG (C_l_Small e10) ⟨rfl, rfl, trivial⟩ trivial trivial <| .gYf rfl rfl rfl c6 <| .not rfl <| .pkFb rfl c6 rfl <| .mv rfl <| .gYf rfl rfl rfl c11 <| .mv rfl <| .gYf rfl rfl rfl c11 <| .lnE rfl is_Lamblelaw01_Num <| .gYf rfl rfl rfl c11 <| .cm rfl rfl rfl <| .pkFb rfl c11 rfl <| .nil) rfl ?_
      by_cases c14 : (decide ((a3.length : Int) > 6)) = true
      · replace h := ite_pos_some c14 h
        refine .cTb rfl c14 ?_
        obtain ⟨v15, e16, h⟩ := bind_some h
        refine .reg (.callG (C_l_awake e16) trivial trivial trivial <| .asg rfl <| .nil) rfl ?_
        cases h
        refine .retG (fun _ _ hb => hb) rfl (.cons (.tmp rfl) .nil) (.refl _) trivial trivial
      · replace h := ite_neg_some c14 h
        refine .cFb rfl c14 ?_
        refine .skip (Ok.on ?_)
        obtain ⟨⟨v17, v18⟩, e19, h⟩ := bind_some h
        refine .reg (.mv rfl <| .callG (C_l_Mat e19) ⟨rfl, trivial⟩ trivial trivial <| .mv rfl <| .ext rfl rfl <| .ext rfl rfl <| .asg rfl <| .asg rfl <| .nil) rfl ?_
        obtain ⟨⟨v20, v21⟩, e22, h⟩ := bind_some h
        refine .reg (.mv rfl <| .callG (C_l_Mat e22) ⟨rfl, trivial⟩ trivial trivial <| .mv rfl <| .ext rfl rfl <| .ext rfl rfl <| .asg rfl <| .asg rfl <| .nil) rfl ?_
        obtain ⟨⟨v23, v24⟩, e25, h⟩ := bind_some h
        refine .reg (.mv rfl <| .callG (C_l_List e25) ⟨rfl, trivial⟩ trivial trivial <| .mv rfl <| .ext rfl rfl <| .ext rfl rfl <| .asg rfl <| .asg rfl <| .nil) rfl ?_
        obtain ⟨⟨v26, v27⟩, e28, h⟩ := bind_some h
        refine .reg (.mv rfl <| .callG (C_r_Right e28) ⟨rfl, trivial⟩ trivial trivial <| .mv rfl <| .ext rfl rfl <| .ext rfl rfl <| .asg rfl <| .asg rfl <| .nil) rfl ?_
        obtain ⟨⟨v29, v30⟩, e31, h⟩ := bind_some h
        refine .reg (.mv rfl <| .callG (C_r_Right e31) ⟨rfl, trivial⟩ trivial trivial <| .mv rfl <| .ext rfl rfl <| .ext rfl rfl <| .asg rfl <| .asg rfl <| .nil) rfl ?_
        obtain ⟨⟨v32, v33⟩, e34, h⟩ := bind_some h
        refine .reg (.mv rfl <| .mv rfl <| .callG (C_Mul e34) ⟨rfl, rfl, trivial⟩ trivial trivial <| .mv rfl <| .ext rfl rfl <| .ext rfl rfl <| .asg rfl <| .asg rfl <| .nil) rfl ?_
        obtain ⟨⟨v35, v36⟩, e37, h⟩ := bind_some h
        refine .reg (.mv rfl <| .mv rfl <| .callG (C_Apply e37) ⟨rfl, rfl, trivial⟩ trivial trivial <| .mv rfl <| .ext rfl rfl <| .ext rfl rfl <| .asg rfl <| .asg rfl <| .nil) rfl ?_
        obtain ⟨⟨v38, v39⟩, e40, h⟩ := bind_some h
        refine .reg (.mv rfl <| .callG (C_Trans e40) ⟨rfl, trivial⟩ trivial trivial <| .mv rfl <| .ext rfl rfl <| .ext rfl rfl <| .asg rfl <| .asg rfl <| .nil) rfl ?_
        refine .sq ?_
        refine .reg (.mv rfl <| .not rfl <| .nil) rfl ?_
        by_cases c41 : (!v27) = true
        · replace h := ite_pos_some c41 h
          refine .cTb rfl c41 ?_
          by_cases c42 : (v33 == 2) = true
          · replace h := ite_pos_some c42 h
            by_cases c43 : (v36 == 2) = true
            · replace h := ite_pos_some c43 h
              by_cases c44 : (v39 == 2) = true
              · replace h := ite_pos_some c44 h
                by_cases c45 : ((IntKind.i64.wrap ((IntKind.i64.wrap ((v32.length : Int) + (v35.length : Int))) + (v38.length : Int))) == 0) = true
                · replace h := ite_pos_some c45 h
                  obtain ⟨v46, e47, h⟩ := bind_some h
                  refine .reg (.mv rfl <| .cm rfl rfl rfl <| .mv rfl <| .gYt rfl rfl rfl c42 <| .mv rfl <| .gYt rfl rfl rfl c42 <| .cm rfl rfl rfl <| .pkTb rfl c42 rfl <| .mv rfl <| .gYt rfl rfl rfl c43 <| .mv rfl <| .gYt rfl rfl rfl c43 <| .cm rfl rfl rfl <| .pkTb rfl c43 rfl <| .mv rfl <| .gYt rfl rfl rfl c44 <| .mv rfl <| .gYt rfl rfl rfl c44 <| .lnE rfl is_exact_Mat <| .gYt rfl rfl rfl c44 <| .mv rfl <| .gYt rfl rfl rfl c44 <| .lnE rfl is_Lexact_Q <| .gYt rfl rfl rfl c44 <| .ar rfl rfl rfl <| .gYt rfl rfl rfl c44 <| .mv rfl <| .gYt rfl rfl rfl c44 <| .lnE rfl is_exact_Mat <| .gYt rfl rfl rfl c44 <| .ar rfl rfl rfl <| .gYt rfl rfl rfl c44 <| .cm rfl rfl rfl <| .pkTb rfl c44 rfl <| .mv rfl <| .gYt rfl rfl rfl c45 <| .callG (C_l_awake e47) trivial trivial trivial <| .pkTb rfl c45 rfl <| .asg rfl <| .nil) rfl ?_
                  cases h
                  refine .retG (fun _ _ hb => hb) rfl (.cons (.tmp rfl) .nil) (.refl _) trivial trivial
                · replace h := ite_neg_some c45 h
                  refine .reg (.mv rfl <| .cm rfl rfl rfl <| .mv rfl <| .gYt rfl rfl rfl c42 <| .mv rfl <| .gYt rfl rfl rfl c42 <| .cm rfl rfl rfl <| .pkTb rfl c42 rfl <| .mv rfl <| .gYt rfl rfl rfl c43 <| .mv rfl <| .gYt rfl rfl rfl c43 <| .cm rfl rfl rfl <| .pkTb rfl c43 rfl <| .mv rfl <| .gYt rfl rfl rfl c44 <| .mv rfl <| .gYt rfl rfl rfl c44 <| .lnE rfl is_exact_Mat <| .gYt rfl rfl rfl c44 <| .mv rfl <| .gYt rfl rfl rfl c44 <| .lnE rfl is_Lexact_Q <| .gYt rfl rfl rfl c44 <| .ar rfl rfl rfl <| .gYt rfl rfl rfl c44 <| .mv rfl <| .gYt rfl rfl rfl c44 <| .lnE rfl is_exact_Mat <| .gYt rfl rfl rfl c44 <| .ar rfl rfl rfl <| .gYt rfl rfl rfl c44 <| .cm rfl rfl rfl <| .pkTb rfl c44 rfl <| .mv rfl <| .gNt rfl rfl rfl c45 <| .pkFb rfl c45 rfl <| .asg rfl <| .nil) rfl ?_
                  cases h
                  refine .retG (fun _ _ hb => hb) rfl (.cons (.tmp rfl) .nil) (.refl _) trivial trivial
              · replace h := ite_neg_some c44 h
                refine .reg (.mv rfl <| .cm rfl rfl rfl <| .mv rfl <| .gYt rfl rfl rfl c42 <| .mv rfl <| .gYt rfl rfl rfl c42 <| .cm rfl rfl rfl <| .pkTb rfl c42 rfl <| .mv rfl <| .gYt rfl rfl rfl c43 <| .mv rfl <| .gYt rfl rfl rfl c43 <| .cm rfl rfl rfl <| .pkTb rfl c43 rfl <| .mv rfl <| .gNt rfl rfl rfl c44 <| .gNt rfl rfl rfl c44 <| .gNt rfl rfl rfl c44 <| .gNt rfl rfl rfl c44 <| .gNt rfl rfl rfl c44 <| .gNt rfl rfl rfl c44 <| .gNt rfl rfl rfl c44 <| .gNt rfl rfl rfl c44 <| .gNt rfl rfl rfl c44 <| .pkFb rfl c44 rfl <| .mv rfl <| .gNt rfl rfl rfl (by decide) <| .pkFb rfl (by decide) rfl <| .asg rfl <| .nil) rfl ?_
                cases h
                refine .retG (fun _ _ hb => hb) rfl (.cons (.tmp rfl) .nil) (.refl _) trivial trivial
            · replace h := ite_neg_some c43 h
              refine .reg (.mv rfl <| .cm rfl rfl rfl <| .mv rfl <| .gYt rfl rfl rfl c42 <| .mv rfl <| .gYt rfl rfl rfl c42 <| .cm rfl rfl rfl <| .pkTb rfl c42 rfl <| .mv rfl <| .gNt rfl rfl rfl c43 <| .gNt rfl rfl rfl c43 <| .pkFb rfl c43 rfl <| .mv rfl <| .gNt rfl rfl rfl (by decide) <| .gNt rfl rfl rfl (by decide) <| .gNt rfl rfl rfl (by decide) <| .gNt rfl rfl rfl (by decide) <| .gNt rfl rfl rfl (by decide) <| .gNt rfl rfl rfl (by decide) <| .gNt rfl rfl rfl (by decide) <| .gNt rfl rfl rfl (by decide) <| .gNt rfl rfl rfl (by decide) <| .pkFb rfl (by decide) rfl <| .mv rfl <| .gNt rfl rfl rfl (by decide) <| .pkFb rfl (by decide) rfl <| .asg rfl <| .nil) rfl ?_
              cases h
              refine .retG (fun _ _ hb => hb) rfl (.cons (.tmp rfl) .nil) (.refl _) trivial trivial
          · replace h := ite_neg_some c42 h
            refine .reg (.mv rfl <| .cm rfl rfl rfl <| .mv rfl <| .gNt rfl rfl rfl c42 <| .gNt rfl rfl rfl c42 <| .pkFb rfl c42 rfl <| .mv rfl <| .gNt rfl rfl rfl (by decide) <| .gNt rfl rfl rfl (by decide) <| .pkFb rfl (by decide) rfl <| .mv rfl <| .gNt rfl rfl rfl (by decide) <| .gNt rfl rfl rfl (by decide) <| .gNt rfl rfl rfl (by decide) <| .gNt rfl rfl rfl (by decide) <| .gNt rfl rfl rfl (by decide) <| .gNt rfl rfl rfl (by decide) <| .gNt rfl rfl rfl (by decide) <| .gNt rfl rfl rfl (by decide) <| .gNt rfl rfl rfl (by decide) <| .pkFb rfl (by decide) rfl <| .mv rfl <| .gNt rfl rfl rfl (by decide) <| .pkFb rfl (by decide) rfl <| .asg rfl <| .nil) rfl ?_
            cases h
            refine .retG (fun _ _ hb => hb) rfl (.cons (.tmp rfl) .nil) (.refl _) trivial trivial
        · replace h := ite_neg_some c41 h
          refine .cFb rfl c41 ?_
          refine .skip (Ok.on ?_)
          refine .sq ?_
          by_cases c48 : (v39 != 0) = true
          · replace h := ite_pos_some c48 h
            refine .reg (.mv rfl <| .cm rfl rfl rfl <| .mv rfl <| .gNf rfl rfl rfl c48 <| .gNf rfl rfl rfl c48 <| .gNf rfl rfl rfl c48 <| .gNf rfl rfl rfl c48 <| .gNf rfl rfl rfl c48 <| .pkTb rfl c48 rfl <| .nil) rfl ?_
            refine .cTb rfl rfl ?_
            refine .reg (.asg rfl <| .nil) rfl ?_
            cases h
            refine .retG (fun _ _ hb => hb) rfl (.cons (.tmp rfl) .nil) (.refl _) trivial trivial
          · replace h := ite_neg_some c48 h
            obtain ⟨v49, e50, h⟩ := bind_some h
            obtain ⟨v51, e52, h⟩ := bind_some h
            refine .reg (.mv rfl <| .cm rfl rfl rfl <| .mv rfl <| .gYf rfl rfl rfl c48 <| .mv rfl <| .gYf rfl rfl rfl c48 <| .mv rfl <| .gYf rfl rfl rfl c48 <| .callG (C_r_Trans e50) ⟨rfl, trivial⟩ trivial trivial <| .gYf rfl rfl rfl c48 <| .callG (C_l_MatAlike e52) ⟨rfl, rfl, trivial⟩ trivial trivial <| .gYf rfl rfl rfl c48 <| .not rfl <| .pkFb rfl c48 rfl <| .nil) rfl ?_
            by_cases c53 : (!v51) = true
            · replace h := ite_pos_some c53 h
              refine .cTb rfl c53 ?_
              refine .reg (.asg rfl <| .nil) rfl ?_
              cases h
              refine .retG (fun _ _ hb => hb) rfl (.cons (.tmp rfl) .nil) (.refl _) trivial trivial
            · replace h := ite_neg_some c53 h
              refine .cFb rfl c53 ?_
              refine .skip (Ok.on ?_)
              obtain ⟨o54, hp55, h⟩ := bind_some h
              refine .cutX (fun i => o54 = Ex.brk i) (fun (i : Unit) => [(8, slcE (Enc.slice Enc.rq) v18), (10, slcE (Enc.slice Enc.rq) v21), (13, D.int .i64 v26), (16, D.bool v30), (17, slcE (Enc.slice Enc.rat) v32), (18, D.int .i64 v33)]) (fun (i : Unit) => []) ?_ ?_
              · have ho1 := h
                clear h
                have h := hp55
                clear hp55
                refine .reg (.mv rfl <| .mv rfl <| .lnE rfl is_Lambleref01_Q <| .cm rfl rfl rfl <| .nil) rfl ?_
                by_cases c56 : (v26 != (v24.length : Int)) = true
                · replace h := ite_pos_some c56 h
                  refine .cTb rfl c56 ?_
                  by_cases c57 : (v36 != 2) = true
                  · replace h := ite_pos_some c57 h
                    refine .reg (.mv rfl <| .cm rfl rfl rfl <| .mv rfl <| .gNf rfl rfl rfl c57 <| .gNf rfl rfl rfl c57 <| .gNf rfl rfl rfl c57 <| .pkTb rfl c57 rfl <| .nil) rfl ?_
                    refine .cTb rfl rfl ?_
                    refine .reg (.asg rfl <| .nil) rfl ?_
                    cases h
                    have h := ho1
                    clear ho1
                    cases h
                    refine .retG (fun _ _ hb => hb) rfl (.cons (.tmp rfl) .nil) (.refl _) trivial trivial
                  · replace h := ite_neg_some c57 h
                    refine .reg (.mv rfl <| .cm rfl rfl rfl <| .mv rfl <| .gYf rfl rfl rfl c57 <| .mv rfl <| .gYf rfl rfl rfl c57 <| .lnE rfl is_Lexact_Q <| .gYf rfl rfl rfl c57 <| .cm rfl rfl rfl <| .pkFb rfl c57 rfl <| .nil) rfl ?_
                    by_cases c58 : ((v35.length : Int) != 0) = true
                    · replace h := ite_pos_some c58 h
                      refine .cTb rfl c58 ?_
                      refine .reg (.asg rfl <| .nil) rfl ?_
                      cases h
                      have h := ho1
                      clear ho1
                      cases h
                      refine .retG (fun _ _ hb => hb) rfl (.cons (.tmp rfl) .nil) (.refl _) trivial trivial
                    · replace h := ite_neg_some c58 h
                      refine .cFb rfl c58 ?_
                      refine .skip (fun _ _ hs => ⟨(), (Option.some.inj h).symm, hs.sub ⟨⟨_, rfl, .refl _⟩, ⟨_, rfl, .refl _⟩, ⟨_, rfl, .refl _⟩, ⟨_, rfl, .refl _⟩, ⟨_, rfl, .refl _⟩, ⟨_, rfl, .refl _⟩, trivial⟩ trivial rfl rfl⟩)
                · replace h := ite_neg_some c56 h
                  refine .cFb rfl c56 ?_
                  by_cases c59 : (v36 != 0) = true
                  · replace h := ite_pos_some c59 h
                    refine .reg (.mv rfl <| .cm rfl rfl rfl <| .mv rfl <| .gNf rfl rfl rfl c59 <| .gNf rfl rfl rfl c59 <| .gNf rfl rfl rfl c59 <| .gNf rfl rfl rfl c59 <| .gNf rfl rfl rfl c59 <| .gNf rfl rfl rfl c59 <| .pkTb rfl c59 rfl <| .nil) rfl ?_
                    refine .cTb rfl rfl ?_
                    refine .reg (.asg rfl <| .nil) rfl ?_
                    cases h
                    have h := ho1
                    clear ho1
                    cases h
                    refine .retG (fun _ _ hb => hb) rfl (.cons (.tmp rfl) .nil) (.refl _) trivial trivial
                  · replace h := ite_neg_some c59 h
                    obtain ⟨v60, e61, h⟩ := bind_some h
                    obtain ⟨v62, e63, h⟩ := bind_some h
                    refine .reg (.mv rfl <| .cm rfl rfl rfl <| .mv rfl <| .gYf rfl rfl rfl c59 <| .mv rfl <| .gYf rfl rfl rfl c59 <| .mv rfl <| .gYf rfl rfl rfl c59 <| .mv rfl <| .gYf rfl rfl rfl c59 <| .callG (C_r_Apply e61) ⟨rfl, rfl, trivial⟩ trivial trivial <| .gYf rfl rfl rfl c59 <| .callG (C_l_Alike e63) ⟨rfl, rfl, trivial⟩ trivial trivial <| .gYf rfl rfl rfl c59 <| .not rfl <| .pkFb rfl c59 rfl <| .nil) rfl ?_
                    by_cases c64 : (!v62) = true
                    · replace h := ite_pos_some c64 h
                      refine .cTb rfl c64 ?_
                      refine .reg (.asg rfl <| .nil) rfl ?_
                      cases h
                      have h := ho1
                      clear ho1
                      cases h
                      refine .retG (fun _ _ hb => hb) rfl (.cons (.tmp rfl) .nil) (.refl _) trivial trivial
                    · replace h := ite_neg_some c64 h
                      refine .cFb rfl c64 ?_
                      refine .skip (fun _ _ hs => ⟨(), (Option.some.inj h).symm, hs.sub ⟨⟨_, rfl, .refl _⟩, ⟨_, rfl, .refl _⟩, ⟨_, rfl, .refl _⟩, ⟨_, rfl, .refl _⟩, ⟨_, rfl, .refl _⟩, ⟨_, rfl, .refl _⟩, trivial⟩ trivial rfl rfl⟩)
              · rintro ⟨⟩ rfl
                show Ok PP _ [(8, slcE (Enc.slice Enc.rq) v18), (10, slcE (Enc.slice Enc.rq) v21), (13, D.int .i64 v26), (16, D.bool v30), (17, slcE (Enc.slice Enc.rat) v32), (18, D.int .i64 v33)] [] _ _
                refine .sq ?_
                by_cases c65 : (!v30) = true
                · replace h := ite_pos_some c65 h
                  refine .reg (.mv rfl <| .not rfl <| .mv rfl <| .gNf rfl rfl rfl c65 <| .gNf rfl rfl rfl c65 <| .gNf rfl rfl rfl c65 <| .gNf rfl rfl rfl c65 <| .pkTb rfl c65 rfl <| .nil) rfl ?_
                  refine .cTb rfl rfl ?_
                  by_cases c66 : (v33 == 2) = true
                  · replace h := ite_pos_some c66 h
                    by_cases c67 : ((v32.length : Int) == 0) = true
                    · replace h := ite_pos_some c67 h
                      obtain ⟨v68, e69, h⟩ := bind_some h
                      refine .reg (.mv rfl <| .cm rfl rfl rfl <| .mv rfl <| .gYt rfl rfl rfl c66 <| .mv rfl <| .gYt rfl rfl rfl c66 <| .lnE rfl is_exact_Mat <| .gYt rfl rfl rfl c66 <| .cm rfl rfl rfl <| .pkTb rfl c66 rfl <| .mv rfl <| .gYt rfl rfl rfl c67 <| .callG (C_l_awake e69) trivial trivial trivial <| .pkTb rfl c67 rfl <| .asg rfl <| .nil) rfl ?_
                      cases h
                      refine .retG (fun _ _ hb => hb) rfl (.cons (.tmp rfl) .nil) (.refl _) trivial trivial
                    · replace h := ite_neg_some c67 h
                      refine .reg (.mv rfl <| .cm rfl rfl rfl <| .mv rfl <| .gYt rfl rfl rfl c66 <| .mv rfl <| .gYt rfl rfl rfl c66 <| .lnE rfl is_exact_Mat <| .gYt rfl rfl rfl c66 <| .cm rfl rfl rfl <| .pkTb rfl c66 rfl <| .mv rfl <| .gNt rfl rfl rfl c67 <| .pkFb rfl c67 rfl <| .asg rfl <| .nil) rfl ?_
                      cases h
                      refine .retG (fun _ _ hb => hb) rfl (.cons (.tmp rfl) .nil) (.refl _) trivial trivial
                  · replace h := ite_neg_some c66 h
                    refine .reg (.mv rfl <| .cm rfl rfl rfl <| .mv rfl <| .gNt rfl rfl rfl c66 <| .gNt rfl rfl rfl c66 <| .gNt rfl rfl rfl c66 <| .pkFb rfl c66 rfl <| .mv rfl <| .gNt rfl rfl rfl (by decide) <| .pkFb rfl (by decide) rfl <| .asg rfl <| .nil) rfl ?_
                    cases h
                    refine .retG (fun _ _ hb => hb) rfl (.cons (.tmp rfl) .nil) (.refl _) trivial trivial
                · replace h := ite_neg_some c65 h
                  refine .reg (.mv rfl <| .not rfl <| .mv rfl <| .gYf rfl rfl rfl c65 <| .mv rfl <| .gYf rfl rfl rfl c65 <| .mv rfl <| .gYf rfl rfl rfl c65 <| .lnE rfl is_ambleref01_Mat <| .gYf rfl rfl rfl c65 <| .cm rfl rfl rfl <| .pkFb rfl c65 rfl <| .nil) rfl ?_
                  by_cases c70 : (v26 != (v21.length : Int)) = true
                  · replace h := ite_pos_some c70 h
                    refine .cTb rfl c70 ?_
                    by_cases c71 : (v33 == 2) = true
                    · replace h := ite_pos_some c71 h
                      by_cases c72 : ((v32.length : Int) == 0) = true
                      · replace h := ite_pos_some c72 h
                        obtain ⟨v73, e74, h⟩ := bind_some h
                        refine .reg (.mv rfl <| .cm rfl rfl rfl <| .mv rfl <| .gYt rfl rfl rfl c71 <| .mv rfl <| .gYt rfl rfl rfl c71 <| .lnE rfl is_exact_Mat <| .gYt rfl rfl rfl c71 <| .cm rfl rfl rfl <| .pkTb rfl c71 rfl <| .mv rfl <| .gYt rfl rfl rfl c72 <| .callG (C_l_awake e74) trivial trivial trivial <| .pkTb rfl c72 rfl <| .asg rfl <| .nil) rfl ?_
                        cases h
                        refine .retG (fun _ _ hb => hb) rfl (.cons (.tmp rfl) .nil) (.refl _) trivial trivial
                      · replace h := ite_neg_some c72 h
                        refine .reg (.mv rfl <| .cm rfl rfl rfl <| .mv rfl <| .gYt rfl rfl rfl c71 <| .mv rfl <| .gYt rfl rfl rfl c71 <| .lnE rfl is_exact_Mat <| .gYt rfl rfl rfl c71 <| .cm rfl rfl rfl <| .pkTb rfl c71 rfl <| .mv rfl <| .gNt rfl rfl rfl c72 <| .pkFb rfl c72 rfl <| .asg rfl <| .nil) rfl ?_
                        cases h
                        refine .retG (fun _ _ hb => hb) rfl (.cons (.tmp rfl) .nil) (.refl _) trivial trivial
                    · replace h := ite_neg_some c71 h
                      refine .reg (.mv rfl <| .cm rfl rfl rfl <| .mv rfl <| .gNt rfl rfl rfl c71 <| .gNt rfl rfl rfl c71 <| .gNt rfl rfl rfl c71 <| .pkFb rfl c71 rfl <| .mv rfl <| .gNt rfl rfl rfl (by decide) <| .pkFb rfl (by decide) rfl <| .asg rfl <| .nil) rfl ?_
                      cases h
                      refine .retG (fun _ _ hb => hb) rfl (.cons (.tmp rfl) .nil) (.refl _) trivial trivial
                  · replace h := ite_neg_some c70 h
                    refine .cFb rfl c70 ?_
                    refine .skip (Ok.on ?_)
                    by_cases c75 : (v33 == 0) = true
                    · replace h := ite_pos_some c75 h
                      obtain ⟨v76, e77, h⟩ := bind_some h
                      obtain ⟨v78, e79, h⟩ := bind_some h
                      by_cases c80 : v78 = true
                      · replace h := ite_pos_some c80 h
                        obtain ⟨v81, e82, h⟩ := bind_some h
                        refine .reg (.mv rfl <| .cm rfl rfl rfl <| .mv rfl <| .gYt rfl rfl rfl c75 <| .mv rfl <| .gYt rfl rfl rfl c75 <| .mv rfl <| .gYt rfl rfl rfl c75 <| .mv rfl <| .gYt rfl rfl rfl c75 <| .callG (C_r_MulMat e77) ⟨rfl, rfl, trivial⟩ trivial trivial <| .gYt rfl rfl rfl c75 <| .callG (C_l_MatAlike e79) ⟨rfl, rfl, trivial⟩ trivial trivial <| .pkTb rfl c75 rfl <| .mv rfl <| .gYt rfl rfl rfl c80 <| .callG (C_l_awake e82) trivial trivial trivial <| .pkTb rfl c80 rfl <| .asg rfl <| .nil) rfl ?_
                        cases h
                        refine .retG (fun _ _ hb => hb) rfl (.cons (.tmp rfl) .nil) (.refl _) trivial trivial
                      · replace h := ite_neg_some c80 h
                        refine .reg (.mv rfl <| .cm rfl rfl rfl <| .mv rfl <| .gYt rfl rfl rfl c75 <| .mv rfl <| .gYt rfl rfl rfl c75 <| .mv rfl <| .gYt rfl rfl rfl c75 <| .mv rfl <| .gYt rfl rfl rfl c75 <| .callG (C_r_MulMat e77) ⟨rfl, rfl, trivial⟩ trivial trivial <| .gYt rfl rfl rfl c75 <| .callG (C_l_MatAlike e79) ⟨rfl, rfl, trivial⟩ trivial trivial <| .pkTb rfl c75 rfl <| .mv rfl <| .gNt rfl rfl rfl c80 <| .pkFb rfl c80 rfl <| .asg rfl <| .nil) rfl ?_
                        cases h
                        refine .retG (fun _ _ hb => hb) rfl (.cons (.tmp rfl) .nil) (.refl _) trivial trivial
                    · replace h := ite_neg_some c75 h
                      refine .reg (.mv rfl <| .cm rfl rfl rfl <| .mv rfl <| .gNt rfl rfl rfl c75 <| .gNt rfl rfl rfl c75 <| .gNt rfl rfl rfl c75 <| .gNt rfl rfl rfl c75 <| .gNt rfl rfl rfl c75 <| .pkFb rfl c75 rfl <| .mv rfl <| .gNt rfl rfl rfl (by decide) <| .pkFb rfl (by decide) rfl <| .asg rfl <| .nil) rfl ?_
                      cases h
                      refine .retG (fun _ _ hb => hb) rfl (.cons (.tmp rfl) .nil) (.refl _) trivial trivial
end
end Go.Am
