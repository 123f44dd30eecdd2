/- ExactFolds: the walk of the law, and its plain law: it returns true for every input. No condition. -/
import Derived.Test.YtgnepgenefcnpaaGreatDoorBbG
set_option linter.unusedVariables false
set_option linter.unusedSimpArgs false
namespace Go.Am
open Go.RowKit
set_option maxRecDepth 100000
noncomputable section
def m_l_ExactFolds (a1 : List (Int × Int × Int)) : Option Bool := (if (decide ((a1.length : Int) > 30)) = true then (m_l_awake).bind fun v3 => some v3 else (m_l_List a1).bind fun (v5, v6) => (m_Min v5).bind fun v8 => (m_r_Min v6).bind fun v10 => (m_l_Same v8 v10).bind fun v12 => (if v12 = true then (m_Max v5).bind fun v15 => (m_r_Max v6).bind fun v17 => (m_l_Same v15 v17).bind fun v19 => (if v19 = true then (m_Sum v5).bind fun v22 => (m_r_Sum v6).bind fun v24 => (m_l_Same v22 v24).bind fun v26 => (if v26 = true then (m_l_awake).bind fun v29 => some v29 else some false) else some false) else some false))
theorem C_l_ExactFolds {a1 : List (Int × Int × Int)} {r31 : Bool} (h : m_l_ExactFolds a1 = some r31) : CtrG PP 8 [] [slcE (Enc.prod (Enc.int .i64) (Enc.prod (Enc.int .i64) (Enc.int .u8))) a1] [] (D.bool r31) := by
  unfold m_l_ExactFolds at h
  refine .of Go.Proofs.Tryz.func8 rfl (by kernel_rfl) rfl rfl rfl rfl rfl rfl (fun A w0 L b => ?_)
  show Ok PP _ [(0, slcE (Enc.prod (Enc.int .i64) (Enc.prod (Enc.int .i64) (Enc.int .u8))) a1)] [] _ _
  refine .reg (.asg rfl <| .nil) rfl ?_
  refine .sq ?_
  refine .reg (.mv rfl <| .lnE rfl is_Lamblelaw01_Num <| .cm rfl rfl rfl <| .nil) rfl ?_
  by_cases c2 : (decide ((a1.length : Int) > 30)) = true
  · replace h := ite_pos_some c2 h
    refine .cTb rfl c2 ?_
    obtain ⟨v3, e4, h⟩ := bind_some h
    refine .reg (.callG (C_l_awake e4) trivial trivial trivial <| .asg rfl <| .nil) rfl ?_
    cases h
    refine .retG (fun _ _ hb => hb) rfl (.cons (.tmp rfl) .nil) (.refl _) trivial trivial
  · replace h := ite_neg_some c2 h
    refine .cFb rfl c2 ?_
    refine .skip (Ok.on ?_)
    obtain ⟨⟨v5, v6⟩, e7, h⟩ := bind_some h
    refine .reg (.mv rfl <| .callG (C_l_List e7) ⟨rfl, trivial⟩ trivial trivial <| .mv rfl <| .ext rfl rfl <| .ext rfl rfl <| .asg rfl <| .asg rfl <| .nil) rfl ?_
    obtain ⟨v8, e9, h⟩ := bind_some h
    obtain ⟨v10, e11, h⟩ := bind_some h
    obtain ⟨v12, e13, h⟩ := bind_some h
    by_cases c14 : v12 = true
    · replace h := ite_pos_some c14 h
      obtain ⟨v15, e16, h⟩ := bind_some h
      obtain ⟨v17, e18, h⟩ := bind_some h
      obtain ⟨v19, e20, h⟩ := bind_some h
      by_cases c21 : v19 = true
      · replace h := ite_pos_some c21 h
        obtain ⟨v22, e23, h⟩ := bind_some h
        obtain ⟨v24, e25, h⟩ := bind_some h
        obtain ⟨v26, e27, h⟩ := bind_some h
        by_cases c28 : v26 = true
        · replace h := ite_pos_some c28 h
          obtain ⟨v29, e30, h⟩ := bind_some h
          refine .reg (.mv rfl <| .callG (C_Min e9) ⟨rfl, trivial⟩ trivial trivial <| .mv rfl <| .callG (C_r_Min e11) ⟨rfl, trivial⟩ trivial trivial <| .callG (C_l_Same e13) ⟨rfl, rfl, trivial⟩ trivial trivial <| .mv rfl <| .gYt rfl rfl rfl c14 <| .mv rfl <| .gYt rfl rfl rfl c14 <| .callG (C_Max e16) ⟨rfl, trivial⟩ trivial trivial <| .gYt rfl rfl rfl c14 <| .mv rfl <| .gYt rfl rfl rfl c14 <| .callG (C_r_Max e18) ⟨rfl, trivial⟩ trivial trivial <| .gYt rfl rfl rfl c14 <| .callG (C_l_Same e20) ⟨rfl, rfl, trivial⟩ trivial trivial <| .pkTb rfl c14 rfl <| .mv rfl <| .gYt rfl rfl rfl c21 <| .mv rfl <| .gYt rfl rfl rfl c21 <| .callG (C_Sum e23) ⟨rfl, trivial⟩ trivial trivial <| .gYt rfl rfl rfl c21 <| .mv rfl <| .gYt rfl rfl rfl c21 <| .callG (C_r_Sum e25) ⟨rfl, trivial⟩ trivial trivial <| .gYt rfl rfl rfl c21 <| .callG (C_l_Same e27) ⟨rfl, rfl, trivial⟩ trivial trivial <| .pkTb rfl c21 rfl <| .mv rfl <| .gYt rfl rfl rfl c28 <| .callG (C_l_awake e30) trivial trivial trivial <| .pkTb rfl c28 rfl <| .asg rfl <| .nil) rfl ?_
          cases h
          refine .retG (fun _ _ hb => hb) rfl (.cons (.tmp rfl) .nil) (.refl _) trivial trivial
        · replace h := ite_neg_some c28 h
          refine .reg (.mv rfl <| .callG (C_Min e9) ⟨rfl, trivial⟩ trivial trivial <| .mv rfl <| .callG (C_r_Min e11) ⟨rfl, trivial⟩ trivial trivial <| .callG (C_l_Same e13) ⟨rfl, rfl, trivial⟩ trivial trivial <| .mv rfl <| .gYt rfl rfl rfl c14 <| .mv rfl <| .gYt rfl rfl rfl c14 <| .callG (C_Max e16) ⟨rfl, trivial⟩ trivial trivial <| .gYt rfl rfl rfl c14 <| .mv rfl <| .gYt rfl rfl rfl c14 <| .callG (C_r_Max e18) ⟨rfl, trivial⟩ trivial trivial <| .gYt rfl rfl rfl c14 <| .callG (C_l_Same e20) ⟨rfl, rfl, trivial⟩ trivial trivial <| .pkTb rfl c14 rfl <| .mv rfl <| .gYt rfl rfl rfl c21 <| .mv rfl <| .gYt rfl rfl rfl c21 <| .callG (C_Sum e23) ⟨rfl, trivial⟩ trivial trivial <| .gYt rfl rfl rfl c21 <| .mv rfl <| .gYt rfl rfl rfl c21 <| .callG (C_r_Sum e25) ⟨rfl, trivial⟩ trivial trivial <| .gYt rfl rfl rfl c21 <| .callG (C_l_Same e27) ⟨rfl, rfl, trivial⟩ trivial trivial <| .pkTb rfl c21 rfl <| .mv rfl <| .gNt rfl rfl rfl c28 <| .pkFb rfl c28 rfl <| .asg rfl <| .nil) rfl ?_
          cases h
          refine .retG (fun _ _ hb => hb) rfl (.cons (.tmp rfl) .nil) (.refl _) trivial trivial
      · replace h := ite_neg_some c21 h
        refine .reg (.mv rfl <| .callG (C_Min e9) ⟨rfl, trivial⟩ trivial trivial <| .mv rfl <| .callG (C_r_Min e11) ⟨rfl, trivial⟩ trivial trivial <| .callG (C_l_Same e13) ⟨rfl, rfl, trivial⟩ trivial trivial <| .mv rfl <| .gYt rfl rfl rfl c14 <| .mv rfl <| .gYt rfl rfl rfl c14 <| .callG (C_Max e16) ⟨rfl, trivial⟩ trivial trivial <| .gYt rfl rfl rfl c14 <| .mv rfl <| .gYt rfl rfl rfl c14 <| .callG (C_r_Max e18) ⟨rfl, trivial⟩ trivial trivial <| .gYt rfl rfl rfl c14 <| .callG (C_l_Same e20) ⟨rfl, rfl, trivial⟩ trivial trivial <| .pkTb rfl c14 rfl <| .mv rfl <| .gNt rfl rfl rfl c21 <| .gNt rfl rfl rfl c21 <| .gNt rfl rfl rfl c21 <| .gNt rfl rfl rfl c21 <| .gNt rfl rfl rfl c21 <| .pkFb rfl c21 rfl <| .mv rfl <| .gNt rfl rfl rfl (by decide) <| .pkFb rfl (by decide) rfl <| .asg rfl <| .nil) rfl ?_
        cases h
        refine .retG (fun _ _ hb => hb) rfl (.cons (.tmp rfl) .nil) (.refl _) trivial trivial
    · replace h := ite_neg_some c14 h
      refine .reg (.mv rfl <| .callG (C_Min e9) ⟨rfl, trivial⟩ trivial trivial <| .mv rfl <| .callG (C_r_Min e11) ⟨rfl, trivial⟩ trivial trivial <| .callG (C_l_Same e13) ⟨rfl, rfl, trivial⟩ trivial trivial <| .mv rfl <| .gNt rfl rfl rfl c14 <| .gNt rfl rfl rfl c14 <| .gNt rfl rfl rfl c14 <| .gNt rfl rfl rfl c14 <| .gNt rfl rfl rfl c14 <| .pkFb rfl c14 rfl <| .mv rfl <| .gNt rfl rfl rfl (by decide) <| .gNt rfl rfl rfl (by decide) <| .gNt rfl rfl rfl (by decide) <| .gNt rfl rfl rfl (by decide) <| .gNt rfl rfl rfl (by decide) <| .pkFb rfl (by decide) rfl <| .mv rfl <| .gNt rfl rfl rfl (by decide) <| .pkFb rfl (by decide) rfl <| .asg rfl <| .nil) rfl ?_
      cases h
      refine .retG (fun _ _ hb => hb) rfl (.cons (.tmp rfl) .nil) (.refl _) trivial trivial
end
end Go.Am
namespace Go.Am
def pk (p : Rat → Rat → Bool) (l : List Rat) : Nat → Rat
  | 0 => 0
  | i + 1 => if i = 0 then l.getD 0 0 else if p (l.getD i 0) (pk p l i) then l.getD i 0 else pk p l i
def sm' (l : List Rat) : Nat → Rat
  | 0 => 0
  | i + 1 => sm' l i + l.getD i 0
def numOk (x : Int × Int × Int) : Prop := i64r x.1 ∧ i64r x.2.1 ∧ 0 ≤ x.2.2 ∧ x.2.2 ≤ 255
def boths (l : List (Int × Int × Int)) : List Rat := l.map fun x => bothX x.1 x.2.1 x.2.2
theorem getD_lt {α : Type} {l : List α} {d : α} {i : Nat} (h : i < l.length) : l.getD i d = l[i] := by simp [List.getD, h]
theorem getD_ge {α : Type} {l : List α} {d : α} {i : Nat} (h : l.length ≤ i) : l.getD i d = d := by simp [List.getD, h]
theorem ixD {α : Type} (l : List α) (d : α) (i : Nat) (h : i < l.length) : ix l (i : Int) = some (l.getD i d) := by
  rw [ix_get h, getD_lt h]
theorem wrap1 {i n : Nat} (h : i < n) (hn : n ≤ 1000) : IntKind.i64.wrap ((i : Int) + 1) = ((i + 1 : Nat) : Int) := by
  rw [i64_in (by omega)]; omega
theorem boths_sz {l : List (Int × Int × Int)} (h : ∀ x ∈ l, numOk x) (i : Nat) : sz ((boths l).getD i 0) ≤ 256 := by
  by_cases hi : i < (boths l).length
  · rw [getD_lt hi]
    have hi' : i < l.length := by simpa [boths] using hi
    simp only [boths, List.getElem_map]
    have := h l[i] (List.getElem_mem hi')
    exact (Both_is _ _ _ this.1 this.2.1 this.2.2).2
  · rw [getD_ge (by omega)]; decide
theorem pk_sz (p : Rat → Rat → Bool) {l : List Rat} (h : ∀ i, sz (l.getD i 0) ≤ 256) : ∀ i, sz (pk p l i) ≤ 256
  | 0 => show sz (0 : Rat) ≤ 256 by decide
  | i + 1 => by
    unfold pk
    split
    · exact h 0
    · split
      · exact h i
      · exact pk_sz p h i
theorem sm_sz {l : List Rat} (h : ∀ i, sz (l.getD i 0) ≤ 256) : ∀ i, sz (sm' l i) ≤ 1 + i * 257
  | 0 => show sz (0 : Rat) ≤ 1 + 0 * 257 by decide
  | i + 1 => by
    have h1 := sm_sz h i
    have h2 := sz_add (sm' l i) (l.getD i 0)
    have h3 := h i
    unfold sm'
    omega
theorem List_is (l : List (Int × Int × Int)) (h : ∀ x ∈ l, numOk x) (hl : l.length ≤ 30) : m_l_List l = some (boths l, boths l) := by
  unfold m_l_List
  obtain ⟨r, hr, rfl⟩ := Loop_run (body := fun (s : Int × (List Rat) × (List Rat)) => m_l_List_l1 l s.1 s.2.1 s.2.2) (0, [], []) (fun s => ∃ i : Nat, i ≤ l.length ∧ s = ((i : Int), (boths l).take i, (boths l).take i)) (fun s => (l.length - s.1).toNat) (fun r => r = (boths l, boths l)) ⟨0, Nat.zero_le _, by simp⟩ (by
    rintro s ⟨i, hi, rfl⟩
    simp only
    unfold m_l_List_l1
    by_cases hlt : i < l.length
    · left
      have hb : i < (boths l).length := by simpa [boths] using hlt
      have hm : (boths l).length = l.length := by simp [boths]
      have hx : ix l (i : Int) = some l[i] := by
        unfold ix
        rw [if_pos (by omega), Int.toNat_natCast, List.getElem?_eq_getElem hlt]
      have ho := h l[i] (List.getElem_mem hlt)
      have hB := (Both_is _ _ _ ho.1 ho.2.1 ho.2.2).1
      rw [if_pos (decide_eq_true (by omega)), hx]
      simp only [Option.bind_some]
      rw [hB]
      simp only [Option.bind_some]
      have ht : ((boths l).take i).length = i := by rw [List.length_take]; omega
      rw [must_eq (by rw [ht]; simp only [List.length_cons, List.length_nil]; omega), must_eq (by rw [ht]; simp only [List.length_cons, List.length_nil]; omega), wrap1 hlt (by omega)]
      have e : bothX l[i].1 l[i].2.1 l[i].2.2 = (boths l)[i] := by simp [boths]
      rw [e]
      refine ⟨_, rfl, ⟨i + 1, hlt, ?_⟩, by simp only; omega⟩
      rw [List.take_succ_eq_append_getElem hb]
    · right
      rw [if_neg (by simp; omega)]
      refine ⟨_, rfl, ?_⟩
      have : i = (boths l).length := by simp [boths]; omega
      rw [this, List.take_length])
  rw [hr]
  rfl
theorem pick_is {body : List Rat → Int → Rat → Option (St (Int × Rat) Rat)} (p : Rat → Rat → Bool) (l : List Rat) (hl : l.length ≤ 30) (h : ∀ i, sz (l.getD i 0) ≤ 256)
    (hb : ∀ (i : Nat), i < l.length → body l (i : Int) (pk p l i) = some (.next (((i + 1 : Nat) : Int), pk p l (i + 1)))) (he : ∀ v, body l (l.length : Int) v = some (.done v)) :
    Loop (fun (s : Int × Rat) => body l s.1 s.2) (0, 0) = some (pk p l l.length) := by
  obtain ⟨r, hr, rfl⟩ := Loop_run (body := fun (s : Int × Rat) => body l s.1 s.2) (0, 0) (fun s => ∃ i : Nat, i ≤ l.length ∧ s = ((i : Int), pk p l i)) (fun s => (l.length - s.1).toNat) (fun r => r = pk p l l.length) ⟨0, Nat.zero_le _, rfl⟩ (by
    rintro s ⟨i, hi, rfl⟩
    simp only
    by_cases hlt : i < l.length
    · left
      exact ⟨_, hb i hlt, ⟨i + 1, hlt, rfl⟩, by simp only; omega⟩
    · right
      have : i = l.length := by omega
      subst this
      exact ⟨_, he _, rfl⟩)
  exact hr
theorem cmp30 {l : List Rat} (h : ∀ i, sz (l.getD i 0) ≤ 256) (p : Rat → Rat → Bool) (i : Nat) : q_cmp (l.getD i 0) (pk p l i) = some (cmpq (l.getD i 0) (pk p l i)) :=
  must_eq ⟨Nat.le_trans (h i) (by omega), Nat.le_trans (pk_sz p h i) (by omega)⟩
theorem Min_is (l : List Rat) (hl : l.length ≤ 30) (h : ∀ i, sz (l.getD i 0) ≤ 256) : m_Min l = some (pk (fun a b => decide (cmpq a b < 0)) l l.length) ∧ m_r_Min l = some (pk (fun a b => decide (cmpq a b < 0)) l l.length) := by
  constructor
  · unfold m_Min m_pick_min
    rw [pick_is (body := m_pick_min_l1) (fun a b => decide (cmpq a b < 0)) l hl h ?_ ?_]
    · rfl
    · intro i hi
      unfold m_pick_min_l1
      rw [if_pos (decide_eq_true (by omega)), ixD l 0 i hi, wrap1 hi (by omega)]
      simp only [Option.bind_some, m_Min_1, cmp30 h, pk]
      by_cases h0 : i = 0
      · subst h0; rfl
      · rw [if_neg (by simpa using h0), if_neg h0]
        split <;> rfl
    · intro v
      unfold m_pick_min_l1
      rw [if_neg (by simp)]
  · unfold m_r_Min
    rw [pick_is (body := m_r_Min_l1) (fun a b => decide (cmpq a b < 0)) l hl h ?_ ?_]
    · rfl
    · intro i hi
      unfold m_r_Min_l1
      rw [if_pos (decide_eq_true (by omega)), ixD l 0 i hi, wrap1 hi (by omega)]
      simp only [Option.bind_some, cmp30 h, pk]
      by_cases h0 : i = 0
      · subst h0; rfl
      · rw [if_neg (by simpa using h0), if_neg h0]
        split <;> rfl
    · intro v
      unfold m_r_Min_l1
      rw [if_neg (by simp)]
theorem Max_is (l : List Rat) (hl : l.length ≤ 30) (h : ∀ i, sz (l.getD i 0) ≤ 256) : m_Max l = some (pk (fun a b => decide (cmpq a b > 0)) l l.length) ∧ m_r_Max l = some (pk (fun a b => decide (cmpq a b > 0)) l l.length) := by
  constructor
  · unfold m_Max m_pick_max
    rw [pick_is (body := m_pick_max_l1) (fun a b => decide (cmpq a b > 0)) l hl h ?_ ?_]
    · rfl
    · intro i hi
      unfold m_pick_max_l1
      rw [if_pos (decide_eq_true (by omega)), ixD l 0 i hi, wrap1 hi (by omega)]
      simp only [Option.bind_some, m_Max_1, cmp30 h, pk]
      by_cases h0 : i = 0
      · subst h0; rfl
      · rw [if_neg (by simpa using h0), if_neg h0]
        split <;> rfl
    · intro v
      unfold m_pick_max_l1
      rw [if_neg (by simp)]
  · unfold m_r_Max
    rw [pick_is (body := m_r_Max_l1) (fun a b => decide (cmpq a b > 0)) l hl h ?_ ?_]
    · rfl
    · intro i hi
      unfold m_r_Max_l1
      rw [if_pos (decide_eq_true (by omega)), ixD l 0 i hi, wrap1 hi (by omega)]
      simp only [Option.bind_some, cmp30 h, pk]
      by_cases h0 : i = 0
      · subst h0; rfl
      · rw [if_neg (by simpa using h0), if_neg h0]
        split <;> rfl
    · intro v
      unfold m_r_Max_l1
      rw [if_neg (by simp)]
theorem sum_is {body : List Rat → Int → Rat → Option (St (Int × Rat) Rat)} (l : List Rat)
    (hb : ∀ (i : Nat), i < l.length → body l (i : Int) (sm' l i) = some (.next (((i + 1 : Nat) : Int), sm' l (i + 1)))) (he : ∀ v, body l (l.length : Int) v = some (.done v)) :
    Loop (fun (s : Int × Rat) => body l s.1 s.2) (0, 0) = some (sm' l l.length) := by
  obtain ⟨r, hr, rfl⟩ := Loop_run (body := fun (s : Int × Rat) => body l s.1 s.2) (0, 0) (fun s => ∃ i : Nat, i ≤ l.length ∧ s = ((i : Int), sm' l i)) (fun s => (l.length - s.1).toNat) (fun r => r = sm' l l.length) ⟨0, Nat.zero_le _, rfl⟩ (by
    rintro s ⟨i, hi, rfl⟩
    simp only
    by_cases hlt : i < l.length
    · left
      exact ⟨_, hb i hlt, ⟨i + 1, hlt, rfl⟩, by simp only; omega⟩
    · right
      have : i = l.length := by omega
      subst this
      exact ⟨_, he _, rfl⟩)
  exact hr
theorem add30 {l : List Rat} (h : ∀ i, sz (l.getD i 0) ≤ 256) (i : Nat) (hi : i ≤ 30) : q_add (sm' l i) (l.getD i 0) = some (sm' l (i + 1)) :=
  must_eq ⟨Nat.le_trans (sm_sz h i) (by omega), Nat.le_trans (h i) (by omega)⟩
theorem Sum_is (l : List Rat) (hl : l.length ≤ 30) (h : ∀ i, sz (l.getD i 0) ≤ 256) : m_Sum l = some (sm' l l.length) ∧ m_r_Sum l = some (sm' l l.length) := by
  constructor
  · unfold m_Sum
    rw [sum_is (body := m_Sum_l1) l ?_ ?_]
    · rfl
    · intro i hi
      unfold m_Sum_l1
      rw [if_pos (decide_eq_true (by omega)), ixD l 0 i hi, wrap1 hi (by omega)]
      simp only [Option.bind_some, add30 h i (by omega)]
    · intro v
      unfold m_Sum_l1
      rw [if_neg (by simp)]
  · unfold m_r_Sum
    rw [sum_is (body := m_r_Sum_l1) l ?_ ?_]
    · rfl
    · intro i hi
      unfold m_r_Sum_l1
      rw [if_pos (decide_eq_true (by omega)), ixD l 0 i hi, wrap1 hi (by omega)]
      simp only [Option.bind_some, add30 h i (by omega)]
    · intro v
      unfold m_r_Sum_l1
      rw [if_neg (by simp)]
theorem Folds_true (l : List (Int × Int × Int)) (h : ∀ x ∈ l, numOk x) : m_l_ExactFolds l = some true := by
  unfold m_l_ExactFolds
  rw [awake_true]
  by_cases c : (l.length : Int) > 30
  · rw [if_pos (decide_eq_true c)]; rfl
  rw [if_neg (by simpa using c), List_is l h (by omega)]
  have hs := boths_sz h
  have hl : (boths l).length ≤ 30 := by simp [boths]; omega
  obtain ⟨a1, a2⟩ := Min_is (boths l) hl hs
  obtain ⟨b1, b2⟩ := Max_is (boths l) hl hs
  obtain ⟨c1, c2⟩ := Sum_is (boths l) hl hs
  have k1 := Same_self (a := pk (fun a b => decide (cmpq a b < 0)) (boths l) (boths l).length) (Nat.le_trans (pk_sz _ hs _) (by omega))
  have k2 := Same_self (a := pk (fun a b => decide (cmpq a b > 0)) (boths l) (boths l).length) (Nat.le_trans (pk_sz _ hs _) (by omega))
  have k3 := Same_self (a := sm' (boths l) (boths l).length) (Nat.le_trans (sm_sz hs _) (by omega))
  simp only [Option.bind_some, a1, a2, b1, b2, c1, c2, k1, k2, k3, if_true]
end Go.Am
namespace Go.Am
set_option maxRecDepth 100000
open Go.RowKit Go.ChangeShapes Go.WideShapes Go.ChangeAt Go.Deep
abbrev EN : Enc (Int × Int × Int) := Enc.prod (Enc.int .i64) (Enc.prod (Enc.int .i64) (Enc.int .u8))
def valsOf : List (Int × Int × Int) → List Value
  | [] => []
  | x :: l => .int .i64 x.1 :: .int .i64 x.2.1 :: .int .u8 x.2.2 :: valsOf l
theorem valsOf_get : ∀ {l : List (Int × Int × Int)} {j : Nat} {u : Value}, (valsOf l)[j]? = some u → ∃ (i : Nat) (x : Int × Int × Int), l[i]? = some x ∧ ((j = i * 3 + 0 ∧ u = .int .i64 x.1) ∨ (j = i * 3 + 1 ∧ u = .int .i64 x.2.1) ∨ (j = i * 3 + 2 ∧ u = .int .u8 x.2.2))
  | [], j, u, h => by simp [valsOf] at h
  | x :: l, 0, u, h => by simp [valsOf] at h; exact ⟨0, x, rfl, .inl ⟨rfl, h.symm⟩⟩
  | x :: l, 1, u, h => by simp [valsOf] at h; exact ⟨0, x, rfl, .inr (.inl ⟨rfl, h.symm⟩)⟩
  | x :: l, 2, u, h => by simp [valsOf] at h; exact ⟨0, x, rfl, .inr (.inr ⟨rfl, h.symm⟩)⟩
  | x :: l, j + 3, u, h => by
    have h1 : (valsOf l)[j]? = some u := by simpa [valsOf] using h
    obtain ⟨i, y, hy, hc⟩ := valsOf_get h1
    refine ⟨i + 1, y, by simpa using hy, ?_⟩
    rcases hc with ⟨e, hu⟩ | ⟨e, hu⟩ | ⟨e, hu⟩
    · exact .inl ⟨by omega, hu⟩
    · exact .inr (.inl ⟨by omega, hu⟩)
    · exact .inr (.inr ⟨by omega, hu⟩)
theorem valsOf_all {ε : Env} {w : World} {S : Reg} : ∀ l : List (Int × Int × Int), (∀ u ∈ valsOf l, u.oneCell' = true) ∧ all2 ε w S (flat EN l) (valsOf l)
  | [] => ⟨fun u h => (by cases h), trivial⟩
  | x :: l => by
    obtain ⟨h1, h2⟩ := valsOf_all (ε := ε) (w := w) (S := S) l
    refine ⟨fun u h => ?_, rfl, rfl, rfl, h2⟩
    simp only [valsOf, List.mem_cons] at h
    rcases h with rfl | rfl | rfl | h
    · rfl
    · rfl
    · rfl
    · exact h1 u h
theorem choose_list {α : Type} {p : Nat → α → Prop} : ∀ n : Nat, (∀ i, i < n → ∃ x, p i x) → ∃ l : List α, l.length = n ∧ ∀ i x, l[i]? = some x → p i x
  | 0, _ => ⟨[], rfl, fun i x h => by simp at h⟩
  | n + 1, h => by
    obtain ⟨l, hl, hp⟩ := choose_list n (fun i hi => h i (by omega))
    obtain ⟨x, hx⟩ := h n (by omega)
    refine ⟨l ++ [x], by simp [hl], fun i y hy => ?_⟩
    by_cases hi : i < l.length
    · rw [List.getElem?_append_left hi] at hy
      exact hp i y hy
    · rw [List.getElem?_append_right (by omega)] at hy
      have : i - l.length = 0 := by
        cases hk : i - l.length with
        | zero => rfl
        | succ k => rw [hk] at hy; simp at hy
      rw [this] at hy
      simp at hy
      subst hy
      have : i = n := by omega
      rw [this]; exact hx
theorem cells3 {w : World} {base : Nat} {a : Addr} {cs : List Value} (h : w.cells? base a 3 = some cs) : ∃ v0 v1 v2, cs = [v0, v1, v2] ∧ w.cell? (a.add 0) = some v0 ∧ w.cell? (a.add 1) = some v1 ∧ w.cell? (a.add 2) = some v2 := by
  unfold World.cells? at h
  split at h
  · have e : List.range 3 = [0, 1, 2] := rfl
    rw [e] at h
    simp only [List.mapM_cons, List.mapM_nil, Option.bind_eq_bind, Option.pure_def] at h
    obtain ⟨v0, h0, h⟩ := bind_some h
    obtain ⟨t1, g1, g⟩ := bind_some h
    obtain ⟨v1, h1, k⟩ := bind_some g1
    obtain ⟨t2, g2, k⟩ := bind_some k
    obtain ⟨v2, h2, k2⟩ := bind_some g2
    clear g1 g2 h
    simp at k2 k g
    exact ⟨v0, v1, v2, by rw [← g, ← k, ← k2], h0, h1, h2⟩
  · cases h
theorem open_nums {H : Type} {enc : TypeId × Value → H} {w : World} {b0 base : Nat} {spare : Nat → Bool} {held : Bool} {r : Reach} {v : Value} {d : DataW H} {p : List MemPlace} (hv : Value.okWide PP w r b0 67 v) (h : DataW.Trod enc PP w base spare held 67 v d p) :
    ∃ xs : List (Int × Int × Int), (∀ x ∈ xs, numOk x) ∧ (slcE EN xs).p ε0 w (fun _ => True) v := by
  obtain ⟨A, len, cap, rfl⟩ := okWide_slice Go.Proofs.Tryz.underlying67 hv
  obtain ⟨fuel, hf⟩ := h
  have hf : DataW.trod enc PP w base spare held fuel 67 [.slice A len cap] = some (d, p) := by simpa [Value.cells] using hf
  rcases DataW.trod_slice Go.Proofs.Tryz.underlying67 hf with ⟨hcs, _⟩ | ⟨a, len', cap', elems, rest, n, _, hcs, _, hb, hlc, hm, hel, hi, _, _⟩
  · simp at hcs
    obtain ⟨rfl, rfl, rfl⟩ := hcs
    exact ⟨[], ⟨fun x hx => (by cases hx), ⟨none, 0, rfl, Nat.le_refl _, rfl, .inl rfl⟩⟩⟩
  · simp at hcs
    obtain ⟨rfl, rfl, rfl⟩ := hcs
    rw [cell_num] at hi
    obtain ⟨xs, hl, hx⟩ := choose_list (p := fun i (x : Int × Int × Int) => numOk x ∧ w.cell? ((a.add (i * 3)).add 0) = some (.int .i64 x.1) ∧ w.cell? ((a.add (i * 3)).add 1) = some (.int .i64 x.2.1) ∧ w.cell? ((a.add (i * 3)).add 2) = some (.int .u8 x.2.2)) len (fun i hil => by
      have h1 := hi i hil
      rw [List.getElem?_eq_getElem (by omega)] at h1
      obtain ⟨cs, hc, ht⟩ := bind_some h1
      obtain ⟨v0, v1, v2, rfl, c0, c1, c2⟩ := cells3 hc
      obtain ⟨x, y, z, e, o1, o2, o3, o4⟩ := open_num ht
      simp at e
      obtain ⟨rfl, rfl, rfl⟩ := e
      exact ⟨(x, y, z), ⟨o1, o2, o3, o4⟩, c0, c1, c2⟩)
    refine ⟨xs, fun x hxm => ?_, ?_⟩
    · obtain ⟨i, hi⟩ := List.getElem?_of_mem hxm
      exact (hx i x hi).1
    · refine ⟨some a, cap, by rw [hl], by rw [hl]; exact hlc, flat_len EN xs, ?_⟩
      by_cases h0 : len = 0
      · left; omega
      · right
        have hlt : 0 < xs.length := by omega
        have hc0 := (hx 0 xs[0] (List.getElem?_eq_getElem hlt)).2.1
        have ea : (a.add (0 * 3)).add 0 = a := by simp [Addr.add]
        rw [ea] at hc0
        obtain ⟨b, o, sp⟩ := a
        have hsp : sp = none := by
          unfold World.cell? at hc0
          split at hc0
          · cases sp with
            | none => rfl
            | some s => simp at hc0
          · cases hc0
        subst hsp
        obtain ⟨cs, ty, fr, hblk⟩ : ∃ cs ty fr, w.heap[b]? = some (.cells cs ty fr) := by
          unfold World.cell? at hc0
          split at hc0
          · rename_i c t f e
            exact ⟨c, t, f, e⟩
          · cases hc0
        refine ⟨b, o, rfl, trivial, cs, ty, fr, valsOf xs, hblk, fun j u hj => ?_, (valsOf_all (ε := ε0) (w := w) (S := fun _ => True) xs).1, (valsOf_all xs).2⟩
        have hcell : ∀ k u, w.cell? ⟨b, o + k, none⟩ = some u → cs[o + k]? = some u := by
          intro k u hk
          simpa [World.cell?, hblk] using hk
        obtain ⟨i, x, hix, hc⟩ := valsOf_get hj
        obtain ⟨_, k0, k1, k2⟩ := hx i x hix
        simp only [add_at] at k0 k1 k2
        rcases hc with ⟨rfl, rfl⟩ | ⟨rfl, rfl⟩ | ⟨rfl, rfl⟩
        · exact hcell _ _ (by rw [← Nat.add_assoc]; exact k0)
        · exact hcell _ _ (by rw [← Nat.add_assoc]; exact k1)
        · exact hcell _ _ (by rw [← Nat.add_assoc]; exact k2)
end Go.Am
