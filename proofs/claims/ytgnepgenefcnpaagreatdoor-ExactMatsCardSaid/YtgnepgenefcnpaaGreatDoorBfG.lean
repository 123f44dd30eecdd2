/- Part 7 of 9 of what the laws of layer 1 share: contracts of functions of the program, each for every argument of its description; no condition beyond it. -/
import Derived.Test.YtgnepgenefcnpaaGreatDoorBfF
set_option linter.unusedVariables false
set_option linter.unusedSimpArgs false
namespace Go.Am
variable {M N : List (List Rat)}
theorem rowN_sz {b : Nat} (h : bd M b) (hb : 1 ≤ b) {i : Nat} (hi : i < M.length) (j : Nat) : sz (M[i].getD j 0) ≤ b := by
  have := bd_ent h hb i j
  unfold ent at this
  rwa [getD_lt hi] at this
theorem bd_grid {n m b : Nat} {f : Nat → Nat → Rat} (h : ∀ k j, sz (f k j) ≤ b) : bd (grid n m f) b := by
  intro r hr x hx
  unfold grid at hr
  obtain ⟨k, _, rfl⟩ := List.mem_map.1 hr
  obtain ⟨j, _, rfl⟩ := List.mem_map.1 hx
  exact h k j
theorem Apply_is {v : List Rat} {b : Nat} (h : right M = true) (hl : M.length ≤ 30) (hc : cols M = v.length) (hv : v.length ≤ 30) (hb : bd M b) (hvb : ∀ j, sz (v.getD j 0) ≤ b) (hb1 : 1 ≤ b) (hb2 : b ≤ 1000000) :
    m_Apply M v = some ((List.range M.length).map (fun i => dotN (fun j => ent M i j) (fun j => v.getD j 0) (cols M)), 0) ∧ m_r_Apply M v = some ((List.range M.length).map (fun i => dotN (fun j => ent M i j) (fun j => v.getD j 0) (cols M))) := by
  have hd : ∀ (i : Nat) (hi : i < M.length), m_dot M[i] v = some (dotN (fun j => ent M i j) (fun j => v.getD j 0) (cols M)) ∧ m_r_DotRow M[i] v = some (dotN (fun j => ent M i j) (fun j => v.getD j 0) (cols M)) := by
    intro i hi
    have hr := right_len h hi
    have := dot_is (a := M[i]) (c := v) (b := b) (by omega) (by omega) (rowN_sz hb hb1 hi) hvb hb2
    rw [hr] at this
    have e : (fun j => M[i].getD j 0) = fun j => ent M i j := by funext j; unfold ent; rw [getD_lt hi]
    rw [e] at this
    exact this
  constructor
  · unfold m_Apply
    rw [size_is M hl, h]
    simp only [Option.bind_some, Bool.not_true, Bool.false_eq_true, if_false]
    rw [if_neg (by simp [hc])]
    have hL := for_run (body := fun (s : Int × (List Rat)) => m_Apply_l1 M v s.1 s.2) M.length (fun i => (List.range i).map (fun i => dotN (fun j => ent M i j) (fun j => v.getD j 0) (cols M))) ((List.range M.length).map (fun i => dotN (fun j => ent M i j) (fun j => v.getD j 0) (cols M))) (fun i hi => by
        unfold m_Apply_l1
        rw [if_pos (decide_eq_true (by omega)), ent_ix hi]
        simp only [Option.bind_some]
        rw [(hd i hi).1]
        simp only [Option.bind_some]
        rw [must_eq (by simp only [List.length_map, List.length_range, List.length_singleton]; omega), wrap1 hi (by omega), row_succ]) (by
        unfold m_Apply_l1
        rw [if_neg (by simp)])
    have : Loop (fun (s : Int × (List Rat)) => m_Apply_l1 M v s.1 s.2) (0, []) = _ := hL
    rw [this]; rfl
  · unfold m_r_Apply
    have hL := for_run (body := fun (s : Int × (List Rat)) => m_r_Apply_l1 M v s.1 s.2) M.length (fun i => (List.range i).map (fun i => dotN (fun j => ent M i j) (fun j => v.getD j 0) (cols M))) ((List.range M.length).map (fun i => dotN (fun j => ent M i j) (fun j => v.getD j 0) (cols M))) (fun i hi => by
        unfold m_r_Apply_l1
        rw [if_pos (decide_eq_true (by omega)), ent_ix hi]
        simp only [Option.bind_some]
        rw [(hd i hi).2]
        simp only [Option.bind_some]
        rw [must_eq (by simp only [List.length_map, List.length_range, List.length_singleton]; omega), wrap1 hi (by omega), row_succ]) (by
        unfold m_r_Apply_l1
        rw [if_neg (by simp)])
    have : Loop (fun (s : Int × (List Rat)) => m_r_Apply_l1 M v s.1 s.2) (0, []) = _ := hL
    rw [this]; rfl
def prodE (M N : List (List Rat)) (n i k : Nat) : Rat := dotN (fun j => ent M i j) (fun j => ent N j k) n
theorem Mul_is {b : Nat} (h : right M = true) (h' : right N = true) (hl : M.length ≤ 30) (hl' : N.length ≤ 30) (hc : cols M = N.length) (hc' : cols N ≤ 30) (hb : bd M b) (hb' : bd N b) (hb1 : 1 ≤ b) (hb2 : b ≤ 1000000) :
    m_Mul M N = some (grid M.length (cols N) (prodE M N (cols M)), 0) := by
  unfold m_Mul
  rw [size_is M hl, size_is N hl', h, h']
  simp only [Option.bind_some, Bool.not_true, Bool.false_eq_true, if_false]
  rw [if_neg (by simp [hc]), turned_is h' hl' hc']
  simp only [Option.bind_some]
  have hL := for_run (body := fun (s : Int × (List (List Rat))) => m_Mul_l1 M (grid (cols N) N.length fun k i => ent N i k) s.1 s.2) M.length (fun i => grid i (cols N) (prodE M N (cols M))) (grid M.length (cols N) (prodE M N (cols M))) (fun i hi => by
      unfold m_Mul_l1
      rw [if_pos (decide_eq_true (by omega)), ent_ix hi]
      simp only [Option.bind_some]
      have hI := for_run (body := fun (s : Int × (List Rat)) => m_Mul_l2 (grid (cols N) N.length fun k i => ent N i k) M[i] s.1 s.2) (cols N) (fun k => (List.range k).map (prodE M N (cols M) i)) ((List.range (cols N)).map (prodE M N (cols M) i)) (fun k hk => by
          unfold m_Mul_l2
          rw [grid_len, if_pos (decide_eq_true (by omega)), grid_ix hk]
          simp only [Option.bind_some]
          have hr := right_len h hi
          have := (dot_is (a := M[i]) (c := (List.range N.length).map fun i => ent N i k) (b := b) (by omega) (by simp; omega) (rowN_sz hb hb1 hi) (fun j => by
            by_cases hj : j < N.length
            · rw [getD_lt (by simpa using hj)]
              simp only [List.getElem_map, List.getElem_range]
              exact bd_ent hb' hb1 j k
            · rw [getD_ge (by simp; omega)]
              exact Nat.le_trans (show sz (0 : Rat) ≤ 1 by decide) hb1) hb2).1
          rw [this, hr]
          simp only [Option.bind_some]
          rw [must_eq (by simp only [List.length_map, List.length_range, List.length_singleton]; omega), wrap1 hk (by omega), row_succ]
          have e : dotN (fun j => M[i].getD j 0) (fun j => ((List.range N.length).map fun i => ent N i k).getD j 0) (cols M) = prodE M N (cols M) i k := dotN_congr (fun j hj => by
            refine ⟨by unfold ent; rw [getD_lt hi], ?_⟩
            rw [getD_lt (by simp; omega)]; simp)
          rw [e]) (by
          unfold m_Mul_l2
          rw [grid_len, if_neg (by simp)])
      have : Loop (fun (s : Int × (List Rat)) => m_Mul_l2 (grid (cols N) N.length fun k i => ent N i k) M[i] s.1 s.2) (0, ([] : List Rat)) = _ := hI
      rw [this]
      simp only [Option.bind_some]
      rw [must_eq (by simp only [grid_len, List.length_singleton]; omega), wrap1 hi (by omega), grid_succ]) (by
      unfold m_Mul_l1
      rw [if_neg (by simp)])
  have : Loop (fun (s : Int × (List (List Rat))) => m_Mul_l1 M (grid (cols N) N.length fun k i => ent N i k) s.1 s.2) (0, []) = _ := hL
  rw [this]; rfl
theorem prodE_sz {b n : Nat} (hb : bd M b) (hb' : bd N b) (hb1 : 1 ≤ b) (i k : Nat) : sz (dotN (fun j => ent M i j) (fun j => ent N j k) n) ≤ 1 + n * (2 * b + 2) := dotN_sz (fun j => bd_ent hb hb1 i j) (fun j => bd_ent hb' hb1 j k) n
theorem MulMat_is {b : Nat} (h : right M = true) (h' : right N = true) (hl : M.length ≤ 30) (hl' : N.length ≤ 30) (hc : cols M = N.length) (hc' : cols N ≤ 30) (hb : bd M b) (hb' : bd N b) (hb1 : 1 ≤ b) (hb2 : b ≤ 1000000) :
    m_r_MulMat M N = some (grid M.length (cols N) (prodE M N (cols M))) := by
  unfold m_r_MulMat
  rw [Right_is N hl', h', if_pos rfl]
  simp only [Option.bind_some]
  rw [Zeros_is _ _ hl hc']
  simp only [Option.bind_some]
  have hL := for_run (body := fun (s : Int × (List (List Rat))) => m_r_MulMat_l1 M N (cols N : Int) s.1 s.2) M.length (fun i => grid M.length (cols N) fun i' k' => if i' < i then prodE M N (cols M) i' k' else 0) (grid M.length (cols N) fun i' k' => if i' < M.length then prodE M N (cols M) i' k' else 0) (fun i hi => by
      unfold m_r_MulMat_l1
      rw [if_pos (decide_eq_true (by omega))]
      have hI := for_run (body := fun (s : Int × (List (List Rat))) => m_r_MulMat_l2 M N (cols N : Int) (i : Int) s.1 s.2) (cols N) (fun k => grid M.length (cols N) fun i' k' => if i' < i ∨ (i' = i ∧ k' < k) then prodE M N (cols M) i' k' else 0) (grid M.length (cols N) fun i' k' => if i' < i ∨ (i' = i ∧ k' < cols N) then prodE M N (cols M) i' k' else 0) (fun k hk => by
          unfold m_r_MulMat_l2
          rw [if_pos (decide_eq_true (by omega))]
          have hJ := for_run (body := fun (s : Int × (List (List Rat))) => m_r_MulMat_l3 M N (i : Int) (k : Int) s.1 s.2) N.length (fun j => grid M.length (cols N) fun i' k' => if i' < i ∨ (i' = i ∧ k' < k) then prodE M N (cols M) i' k' else if i' = i ∧ k' = k then prodE M N j i k else 0) (grid M.length (cols N) fun i' k' => if i' < i ∨ (i' = i ∧ k' < k) then prodE M N (cols M) i' k' else if i' = i ∧ k' = k then prodE M N N.length i k else 0) (fun j hj => by
              unfold m_r_MulMat_l3
              rw [if_pos (decide_eq_true (by omega)), grid_ix hi, ent_ix hi, ent_ix hj]
              rw [Option.bind_some, Option.bind_some, row_ix hk, Option.bind_some, Option.bind_some, ent_ix2 h hi (by omega), Option.bind_some, Option.bind_some, ent_ix2 h' hj hk, Option.bind_some]
              rw [if_neg (by omega), if_pos ⟨rfl, rfl⟩]
              haveI : Bd (ent M i j) 1000000 := ⟨Nat.le_trans (bd_ent hb hb1 i j) hb2⟩
              haveI : Bd (ent N j k) 1000000 := ⟨Nat.le_trans (bd_ent hb' hb1 j k) hb2⟩
              haveI : Bd (prodE M N j i k) 100000000 := ⟨by
                have h1 := prodE_sz (n := j) hb hb' hb1 i k
                have h2 : j * (2 * b + 2) ≤ 30 * (2 * 1000000 + 2) := Nat.mul_le_mul (by omega) (by omega)
                unfold prodE
                omega⟩
              rw [q_mulB (by decide) (by decide), Option.bind_some, q_addB (by decide) (by decide), Option.bind_some, Option.bind_some]
              rw [grid_set, wrap1 hj (by omega)]
              rw [grid_congr (g := fun i' k' => if i' < i ∨ (i' = i ∧ k' < k) then prodE M N (cols M) i' k' else if i' = i ∧ k' = k then prodE M N (j + 1) i k else 0) (fun i' k' _ _ => by
                by_cases e1 : i' = i ∧ k' = k
                · rw [if_pos e1, if_neg (by omega), if_pos e1]; rfl
                · rw [if_neg e1]
                  by_cases e2 : i' < i ∨ i' = i ∧ k' < k
                  · rw [if_pos e2, if_pos e2]
                  · rw [if_neg e2, if_neg e1, if_neg e2, if_neg e1])]) (by
              unfold m_r_MulMat_l3
              rw [if_neg (by simp)])
          have e0 : (grid M.length (cols N) fun i' k' => if i' < i ∨ (i' = i ∧ k' < k) then prodE M N (cols M) i' k' else 0) = (grid M.length (cols N) fun i' k' => if i' < i ∨ (i' = i ∧ k' < k) then prodE M N (cols M) i' k' else if i' = i ∧ k' = k then prodE M N 0 i k else 0) := grid_congr (fun i' k' _ _ => by
            by_cases e2 : i' < i ∨ i' = i ∧ k' < k
            · rw [if_pos e2, if_pos e2]
            · rw [if_neg e2, if_neg e2]
              split <;> rfl)
          rw [e0]
          have : Loop (fun (s : Int × (List (List Rat))) => m_r_MulMat_l3 M N (i : Int) (k : Int) s.1 s.2) (0, _) = _ := hJ
          rw [this]
          simp only [Option.bind_some]
          rw [wrap1 hk (by omega), grid_congr (g := fun i' k' => if i' < i ∨ (i' = i ∧ k' < k + 1) then prodE M N (cols M) i' k' else 0) (fun i' k' _ _ => by
            by_cases e2 : i' < i ∨ i' = i ∧ k' < k
            · rw [if_pos e2, if_pos (by omega)]
            · rw [if_neg e2]
              by_cases e1 : i' = i ∧ k' = k
              · rw [if_pos e1, if_pos (by omega), e1.1, e1.2, hc]
              · rw [if_neg e1, if_neg (by omega)])]) (by
          unfold m_r_MulMat_l2
          rw [if_neg (by simp)])
      have e0 : (grid M.length (cols N) fun i' k' => if i' < i then prodE M N (cols M) i' k' else 0) = (grid M.length (cols N) fun i' k' => if i' < i ∨ (i' = i ∧ k' < 0) then prodE M N (cols M) i' k' else 0) := grid_congr (fun k' j' _ _ => by simp)
      rw [e0]
      have : Loop (fun (s : Int × (List (List Rat))) => m_r_MulMat_l2 M N (cols N : Int) (i : Int) s.1 s.2) (0, _) = _ := hI
      rw [this]
      simp only [Option.bind_some]
      rw [wrap1 hi (by omega), grid_congr (g := fun i' k' => if i' < i + 1 then prodE M N (cols M) i' k' else 0) (fun i' k' h1 h2 => by
        by_cases e1 : i' < i + 1
        · rw [if_pos e1, if_pos (by omega)]
        · rw [if_neg e1, if_neg (by omega)])]) (by
      unfold m_r_MulMat_l1
      rw [if_neg (by simp)])
  have e0 : (grid M.length (cols N) fun _ _ => (0 : Rat)) = grid M.length (cols N) fun i' k' => if i' < 0 then prodE M N (cols M) i' k' else 0 := grid_congr (fun _ _ _ _ => by simp)
  rw [e0]
  have : Loop (fun (s : Int × (List (List Rat))) => m_r_MulMat_l1 M N (cols N : Int) s.1 s.2) (0, _) = _ := hL
  rw [this]
  simp only [Option.bind_some]
  rw [grid_congr (g := prodE M N (cols M)) (fun k' j' h2 _ => by rw [if_pos h2])]
def small (x : List (List (Int × Int × Int))) (n : Nat) : Bool := decide (x.length ≤ n) && x.all fun r => decide (r.length ≤ n)
theorem small_of {x : List (List (Int × Int × Int))} {n : Nat} (h : small x n = true) : x.length ≤ n ∧ ∀ r ∈ x, r.length ≤ n := by
  unfold small at h
  rw [Bool.and_eq_true, List.all_eq_true] at h
  exact ⟨by simpa using h.1, fun r hr => by simpa using h.2 r hr⟩
theorem Small_is (x : List (List (Int × Int × Int))) (n : Nat) (hn : n ≤ 30) : m_l_Small x (n : Int) = some (small x n) := by
  obtain ⟨r, hr, hp⟩ := Loop_run (body := fun (s : Int) => m_l_Small_l1 x (n : Int) s) 0 (fun s => ∃ i : Nat, i ≤ x.length ∧ i ≤ n + 1 ∧ s = (i : Int) ∧ ∀ k (hk : k < x.length), k < i → (x[k]).length ≤ n) (fun s => (x.length - s).toNat)
    (fun r => (small x n = false ∧ r = Ex.ret false) ∨ ((small x n = true ∨ n < x.length) ∧ r = Ex.brk ())) ⟨0, Nat.zero_le _, Nat.zero_le _, rfl, fun k _ hk => by omega⟩ (by
    rintro s ⟨i, hi, hin, rfl, hall⟩
    unfold m_l_Small_l1
    by_cases hlt : i < x.length
    · rw [if_pos (decide_eq_true (by omega))]
      by_cases hn2 : i ≤ n
      · rw [if_pos (decide_eq_true (by omega)), ix_get hlt]
        simp only [Option.bind_some]
        by_cases hq : (x[i]).length > n
        · right
          rw [if_pos (decide_eq_true (by omega))]
          refine ⟨_, rfl, .inl ⟨?_, rfl⟩⟩
          cases hs : small x n with
          | false => rfl
          | true => have := (small_of hs).2 x[i] (List.getElem_mem hlt); omega
        · left
          rw [if_neg (by rw [decide_eq_true_eq]; omega)]
          have hw : IntKind.i64.wrap ((i : Int) + 1) = ((i + 1 : Nat) : Int) := by rw [i64_in (by omega)]; omega
          rw [hw]
          refine ⟨_, rfl, ⟨i + 1, hlt, by omega, rfl, fun k hk hki => ?_⟩, by omega⟩
          by_cases e : k = i
          · subst e; omega
          · exact hall k hk (by omega)
      · right
        rw [if_neg (by rw [decide_eq_true_eq]; omega)]
        exact ⟨_, rfl, .inr ⟨.inr (by omega), rfl⟩⟩
    · right
      rw [if_neg (by rw [decide_eq_true_eq]; omega)]
      refine ⟨_, rfl, .inr ⟨?_, rfl⟩⟩
      by_cases hxn : n < x.length
      · exact .inr hxn
      · left
        unfold small
        rw [Bool.and_eq_true, List.all_eq_true]
        refine ⟨decide_eq_true (by omega), fun r hr => ?_⟩
        obtain ⟨k, hk, rfl⟩ := List.getElem_of_mem hr
        exact decide_eq_true (hall k hk (by omega)))
  unfold m_l_Small
  rw [hr]
  rcases hp with ⟨h1, rfl⟩ | ⟨h1, rfl⟩
  · rw [h1]; rfl
  · rcases h1 with h1 | h1
    · have := (small_of h1).1
      simp only [Option.bind_some, h1]
      rw [decide_eq_true (by omega)]
    · have h2 : small x n = false := by
        unfold small
        rw [decide_eq_false (by omega), Bool.false_and]
      simp only [Option.bind_some, h2]
      rw [decide_eq_false (by omega)]
def matOk (x : List (List (Int × Int × Int))) : Prop := ∀ r ∈ x, ∀ e ∈ r, numOk e
theorem Mat_is (x : List (List (Int × Int × Int))) (h : matOk x) (hl : x.length ≤ 30) (hr : ∀ r ∈ x, r.length ≤ 30) : m_l_Mat x = some (x.map boths, x.map boths) := by
  have hL := for_run (body := fun (s : Int × (List (List Rat)) × (List (List Rat))) => m_l_Mat_l1 x s.1 s.2.1 s.2.2) x.length (fun i => ((x.map boths).take i, (x.map boths).take i)) (x.map boths, x.map boths) (fun i hi => by
      unfold m_l_Mat_l1
      rw [if_pos (decide_eq_true (by omega)), ix_get hi]
      simp only [Option.bind_some]
      rw [List_is _ (h _ (List.getElem_mem hi)) (hr _ (List.getElem_mem hi))]
      simp only [Option.bind_some]
      have ht : ((x.map boths).take i).length = i := by simp; omega
      rw [must_eq (by rw [ht]; simp only [List.length_singleton]; omega), must_eq (by rw [ht]; simp only [List.length_singleton]; omega), wrap1 hi (by omega)]
      have e : (x.map boths).take (i + 1) = (x.map boths).take i ++ [boths x[i]] := by
        rw [List.take_succ_eq_append_getElem (by simpa using hi)]; simp
      rw [e]) (by
      unfold m_l_Mat_l1
      rw [if_neg (by simp)]
      have e : (x.map boths).take x.length = x.map boths := by rw [List.take_of_length_le]; simp
      rw [e])
  unfold m_l_Mat
  have : Loop (fun (s : Int × (List (List Rat)) × (List (List Rat))) => m_l_Mat_l1 x s.1 s.2.1 s.2.2) (0, [], []) = some (x.map boths, x.map boths) := hL
  rw [this]; rfl
theorem bd_boths {x : List (List (Int × Int × Int))} (h : matOk x) : bd (x.map boths) 256 := by
  intro r hr q hq
  obtain ⟨r', hr', rfl⟩ := List.mem_map.1 hr
  obtain ⟨j, hj, rfl⟩ := List.getElem_of_mem hq
  have := boths_sz (h r' hr') j
  rwa [getD_lt hj] at this
theorem Alike_is (l : List Rat) (hl : l.length ≤ 30) (h : ∀ q ∈ l, sz q ≤ 400000000000) : m_l_Alike l l = some true := by
  unfold m_l_Alike
  rw [if_neg (by simp)]
  have hL := for_run0 (body := fun (s : Int) => m_l_Alike_l1 l l s) l.length (Ex.brk ()) (fun i hi => by
    unfold m_l_Alike_l1
    rw [if_pos (decide_eq_true (by omega)), ix_get hi]
    simp only [Option.bind_some]
    rw [Same_self (h _ (List.getElem_mem hi))]
    simp only [Option.bind_some, Bool.not_true, Bool.false_eq_true, if_false]
    rw [wrap1 hi (by omega)]) (by
    unfold m_l_Alike_l1
    rw [if_neg (by simp)])
  rw [hL]; rfl
theorem MatAlike_is (M : List (List Rat)) (hl : M.length ≤ 30) (hr : ∀ r ∈ M, r.length ≤ 30) (h : bd M 400000000000) : m_l_MatAlike M M = some true := by
  unfold m_l_MatAlike
  rw [if_neg (by simp)]
  have hL := for_run0 (body := fun (s : Int) => m_l_MatAlike_l1 M M s) M.length (Ex.brk ()) (fun i hi => by
    unfold m_l_MatAlike_l1
    rw [if_pos (decide_eq_true (by omega)), ix_get hi]
    simp only [Option.bind_some]
    rw [Alike_is _ (hr _ (List.getElem_mem hi)) (h _ (List.getElem_mem hi))]
    simp only [Option.bind_some, Bool.not_true, Bool.false_eq_true, if_false]
    rw [wrap1 hi (by omega)]) (by
    unfold m_l_MatAlike_l1
    rw [if_neg (by simp)])
  rw [hL]; rfl
theorem grid_rows {n m : Nat} {f : Nat → Nat → Rat} {r : List Rat} (h : r ∈ grid n m f) : r.length = m := by
  unfold grid at h
  obtain ⟨k, _, rfl⟩ := List.mem_map.1 h
  simp
theorem Mats_true (x y : List (List (Int × Int × Int))) (l : List (Int × Int × Int)) (hx : matOk x) (hy : matOk y) (hl : ∀ e ∈ l, numOk e) : m_l_ExactMats x y l = some true := by
  unfold m_l_ExactMats
  have s1 := Small_is x 5 (by omega)
  have s2 := Small_is y 5 (by omega)
  have c5 : ((5 : Nat) : Int) = 5 := rfl
  rw [c5] at s1 s2
  rw [s1]
  cases h1 : small x 5 with
  | false => simp [awake_true]
  | true =>
  simp only [Option.bind_some, Bool.not_true, Bool.false_eq_true, if_false]
  rw [s2]
  cases h2 : small y 5 with
  | false => simp [awake_true]
  | true =>
  simp only [Option.bind_some, Bool.not_true, Bool.false_eq_true, if_false]
  by_cases h3 : (l.length : Int) > 6
  · rw [if_pos (decide_eq_true h3), awake_true]; rfl
  rw [if_neg (by rwa [decide_eq_true_eq])]
  obtain ⟨lx, rx⟩ := small_of h1
  obtain ⟨ly, ry⟩ := small_of h2
  rw [Mat_is x hx (by omega) (fun r hr => by have := rx r hr; omega), Mat_is y hy (by omega) (fun r hr => by have := ry r hr; omega), List_is l hl (by omega)]
  simp only [Option.bind_some]
  have bx := bd_boths hx
  have by' := bd_boths hy
  have bl := boths_sz hl
  have nx : (x.map boths).length ≤ 5 := by simpa using lx
  have ny : (y.map boths).length ≤ 5 := by simpa using ly
  have nl : (boths l).length ≤ 6 := by simp [boths]; omega
  have cx : cols (x.map boths) ≤ 5 := by
    unfold cols
    by_cases h0 : 0 < x.length
    · rw [getD_lt (by simpa using h0)]
      have := rx x[0] (List.getElem_mem h0)
      simpa [boths] using this
    · rw [getD_ge (by rw [List.length_map]; omega)]; exact Nat.zero_le _
  have cy : cols (y.map boths) ≤ 5 := by
    unfold cols
    by_cases h0 : 0 < y.length
    · rw [getD_lt (by simpa using h0)]
      have := ry y[0] (List.getElem_mem h0)
      simpa [boths] using this
    · rw [getD_ge (by rw [List.length_map]; omega)]; exact Nat.zero_le _
  generalize x.map boths = M at *
  generalize y.map boths = N at *
  generalize boths l = v at *
  rw [Right_is M (by omega), Right_is N (by omega)]
  simp only [Option.bind_some]
  by_cases hM : right M = true
  · have eT : m_Trans M = some (grid (cols M) M.length fun k i => ent M i k, 0) := by
      unfold m_Trans
      rw [size_is M (by omega), hM]
      simp only [Option.bind_some, Bool.not_true, Bool.false_eq_true, if_false]
      rw [turned_is hM (by omega) (by omega)]; rfl
    have bT : bd (grid (cols M) M.length fun k i => ent M i k) 400000000000 := bd_grid (fun k j => Nat.le_trans (bd_ent bx (by decide) j k) (by decide))
    have aT := MatAlike_is (grid (cols M) M.length fun k i => ent M i k) (by rw [grid_len]; omega) (fun r hr => by rw [grid_rows hr]; omega) bT
    have mulN : right N = false → m_Mul M N = some ([], 2) := fun hN => by
      unfold m_Mul
      rw [size_is M (by omega), size_is N (by omega), hM, hN]; rfl
    have mulC : right N = true → cols M ≠ N.length → m_Mul M N = some ([], 2) := fun hN hc => by
      unfold m_Mul
      rw [size_is M (by omega), size_is N (by omega), hM, hN]
      simp only [Option.bind_some, Bool.not_true, Bool.false_eq_true, if_false]
      rw [if_pos (by simp; omega)]
    have appC : cols M ≠ v.length → m_Apply M v = some ([], 2) := fun hc => by
      unfold m_Apply
      rw [size_is M (by omega), hM]
      simp only [Option.bind_some, Bool.not_true, Bool.false_eq_true, if_false]
      rw [if_pos (by simp; omega)]
    have prodB : bd (grid M.length (cols N) (prodE M N (cols M))) 400000000000 := bd_grid (fun i k => by
      have h1 := prodE_sz (n := cols M) bx by' (by decide) i k
      have h2 : cols M * (2 * 256 + 2) ≤ 5 * (2 * 256 + 2) := Nat.mul_le_mul_right _ cx
      unfold prodE
      omega)
    have aP := MatAlike_is (grid M.length (cols N) (prodE M N (cols M))) (by rw [grid_len]; omega) (fun r hr => by rw [grid_rows hr]; omega) prodB
    -- what is left when Apply has been looked at
    have tail : ∀ (c : List (List Rat)) (e : Int), m_Mul M N = some (c, e) → (if (!(if right N = true then ((cols N : Int), true) else (0, false)).2) = true then (if (e == 2) = true then (if ((c.length : Int) == 0) = true then (m_l_awake).bind fun v68 => some v68 else some false) else some false) else (if ((cols M : Int) != (N.length : Int)) = true then (if (e == 2) = true then (if ((c.length : Int) == 0) = true then (m_l_awake).bind fun v73 => some v73 else some false) else some false) else (if (e == 0) = true then (m_r_MulMat M N).bind fun v76 => (m_l_MatAlike c v76).bind fun v78 => (if v78 = true then (m_l_awake).bind fun v81 => some v81 else some false) else some false))) = some true := by
      intro c e he
      by_cases hN : right N = true
      · by_cases hc : cols M = N.length
        · rw [Mul_is (b := 256) hM hN (by omega) (by omega) hc (by omega) bx by' (by decide) (by decide)] at he
          injection he with he
          injection he with he1 he2
          subst he1; subst he2
          rw [hN, if_pos rfl, if_neg (by simp), if_neg (by simp [hc]), if_pos (show ((0 : Int) == 0) = true from rfl), MulMat_is (b := 256) hM hN (by omega) (by omega) hc (by omega) bx by' (by decide) (by decide)]
          simp only [Option.bind_some]
          rw [aP]
          simp [awake_true]
        · rw [mulC hN hc] at he
          injection he with he
          injection he with he1 he2
          subst he1; subst he2
          rw [hN, if_pos rfl, if_neg (by simp), if_pos (by simp; omega)]
          simp [awake_true]
      · have hN : right N = false := by simpa using hN
        rw [mulN hN] at he
        injection he with he
        injection he with he1 he2
        subst he1; subst he2
        rw [hN]
        simp [awake_true]
    have hmul : ∃ c e, m_Mul M N = some (c, e) := by
      by_cases hN : right N = true
      · by_cases hc : cols M = N.length
        · exact ⟨_, _, Mul_is (b := 256) hM hN (by omega) (by omega) hc (by omega) bx by' (by decide) (by decide)⟩
        · exact ⟨_, _, mulC hN hc⟩
      · exact ⟨_, _, mulN (by simpa using hN)⟩
    obtain ⟨c, e, hm⟩ := hmul
    have ht := tail c e hm
    rw [hm, hM, if_pos rfl]
    simp only [Option.bind_some, Bool.not_true, Bool.false_eq_true, if_false]
    by_cases hc : cols M = v.length
    · obtain ⟨a1, a2⟩ := Apply_is (b := 256) hM (by omega) hc (by omega) bx bl (by decide) (by decide)
      have aA := Alike_is ((List.range M.length).map (fun i => dotN (fun j => ent M i j) (fun j => v.getD j 0) (cols M))) (by simp; omega) (fun q hq => by
        obtain ⟨i, _, rfl⟩ := List.mem_map.1 hq
        have h1 := dotN_sz (g := fun j => ent M i j) (h := fun j => v.getD j 0) (b := 256) (fun j => bd_ent bx (by decide) i j) bl (cols M)
        have h2 : cols M * (2 * 256 + 2) ≤ 5 * (2 * 256 + 2) := Nat.mul_le_mul_right _ cx
        omega)
      rw [a1]
      simp only [Option.bind_some]
      rw [eT]
      simp only [Option.bind_some]
      rw [if_neg (by simp), r_Trans_is hM (by omega) (by omega)]
      simp only [Option.bind_some]
      rw [aT]
      simp only [Option.bind_some, Bool.not_true, Bool.false_eq_true, if_false]
      rw [if_neg (by simp [hc]), if_neg (by simp), a2]
      simp only [Option.bind_some]
      rw [aA]
      simp only [Option.bind_some, Bool.not_true, Bool.false_eq_true, if_false]
      exact ht
    · rw [appC hc]
      simp only [Option.bind_some]
      rw [eT]
      simp only [Option.bind_some]
      rw [if_neg (by simp), r_Trans_is hM (by omega) (by omega)]
      simp only [Option.bind_some]
      rw [aT]
      simp only [Option.bind_some, Bool.not_true, Bool.false_eq_true, if_false]
      rw [if_pos (by simp; omega), if_neg (by simp), if_neg (by simp)]
      simp only [Option.bind_some]
      exact ht
  · have hM : right M = false := by simpa using hM
    have e1 : m_Mul M N = some ([], 2) := by
      unfold m_Mul
      rw [size_is M (by omega), size_is N (by omega), hM]; rfl
    have e2 : m_Apply M v = some ([], 2) := by
      unfold m_Apply
      rw [size_is M (by omega), hM]; rfl
    have e3 : m_Trans M = some ([], 2) := by
      unfold m_Trans
      rw [size_is M (by omega), hM]; rfl
    rw [e1, e2, e3, hM]
    cases hN : right N <;> simp [awake_true] <;> rfl
end Go.Am
