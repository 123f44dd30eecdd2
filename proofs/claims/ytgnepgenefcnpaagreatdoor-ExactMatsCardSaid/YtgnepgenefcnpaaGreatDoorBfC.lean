/- Part 3 of 9 of what the laws of layer 1 share: contracts of functions of the program, each for every argument of its description; no condition beyond it. -/
import Derived.Test.YtgnepgenefcnpaaGreatDoorBfB
set_option linter.unusedVariables false
set_option linter.unusedSimpArgs false
namespace Go.Am
open Go.RowKit
theorem set_mid {p : List Nat} {u d : Nat} {q : List Nat} {i : Nat} (h : p.length = i) : (p ++ u :: q).set i d = p ++ d :: q := by
  subst h; simp
theorem get_mid {p : List Nat} {u : Nat} {q : List Nat} {i : Nat} (h : p.length = i) : (p ++ u :: q)[i]? = some u := by
  subst h; simp
def taken (us v : List Nat) (t at' : Nat) : List Nat := us.take at' ++ takeL t v 0 0 (us.drop at')
def given (us v : List Nat) (at' : Nat) : List Nat := us.take at' ++ giveL v 0 (us.drop at')
theorem K_take (us v : List Nat) (t at' : Nat) (hus : lows us) (hv : lows v) (ht : t < 4294967296) (hl : at' + v.length < us.length) (hmax : us.length ≤ 2199023255552) :
    CtrM PP 227 [dgD v, .int .u64 t, .int .i64 at'] 1 230 (u32s us) (.bool (takeB t v 0 0 (us.drop at') != 0)) (u32s (taken us v t at')) := by
  refine .of (hl := u32s_nm us) (hl' := u32s_nm _) Go.Proofs.Tryz.func227 rfl (by kernel_rfl) rfl rfl rfl (fun A w0 b F hF => ?_)
  refine .reg (.asg rfl <| .nil) rfl ?_
  refine .reg (.asg rfl <| .asg rfl <| .nil) rfl (.sq ?_)
  refine .reg (.mv rfl <| .ln rfl is_exact_nat <| .mv rfl <| .nil) rfl ?_
  refine .block (.loop (ι := { p : List Nat × Nat × Nat × Nat // p.1.length = at' + p.2.2.2 ∧ p.2.2.2 ≤ v.length ∧ p.2.1 < 4294967296 ∧ p.2.2.1 ≤ 1 ∧ taken us v t at' = p.1 ++ takeL t (v.drop p.2.2.2) p.2.1 p.2.2.1 (us.drop (at' + p.2.2.2)) ∧
      takeB t v 0 0 (us.drop at') = takeB t (v.drop p.2.2.2) p.2.1 p.2.2.1 (us.drop (at' + p.2.2.2)) })
    (fun p => [(0, pin 0 b), (1, dgD v), (2, .int .u64 t), (3, .int .i64 at'), (9, .int .u64 p.1.2.1), (10, .int .u32 p.1.2.2.1), (13, dgD v), (14, .int .i64 v.length), (15, .int .i64 p.1.2.2.2)])
    (fun p => [(0, .row 1 230 (u32s (p.1.1 ++ us.drop (at' + p.1.2.2.2))) (u32s_nm _))]) (fun p => v.length - p.1.2.2.2)
    ⟨(us.take at', 0, 0, 0), by simp; omega, Nat.zero_le _, by simp, by simp, rfl, rfl⟩ (allT rfl) ⟨⟨_, rfl, .of_eq (row_eq (by simp))⟩, trivial⟩ rfl rfl ?_)
  rintro ⟨⟨ps, c, bo, i⟩, hpl, hi, hc, hbo, htk, htb⟩
  simp only at hpl hi hc hbo htk htb
  show Ok PP _ [(0, pin 0 b), (1, dgD v), (2, .int .u64 t), (3, .int .i64 at'), (9, .int .u64 c), (10, .int .u32 bo), (13, dgD v), (14, .int .i64 v.length), (15, .int .i64 i)] [(0, .row 1 230 (u32s (ps ++ us.drop (at' + i))) (u32s_nm _))] _ _
  have hdu : us.drop (at' + i) = us.getD (at' + i) 0 :: us.drop (at' + i + 1) := by
    rw [List.drop_eq_getElem_cons (show at' + i < us.length by omega)]; simp [show at' + i < us.length by omega]
  have hul := lows_get hus (at' + i)
  generalize us.getD (at' + i) 0 = u at hdu hul
  refine .sub [(0, pin 0 b), (1, dgD v), (2, .int .u64 t), (3, .int .i64 at'), (9, .int .u64 c), (10, .int .u32 bo), (13, dgD v), (14, .int .i64 v.length), (15, .int .i64 i)] [(0, .row 1 230 (u32s (ps ++ u :: us.drop (at' + i + 1))) (u32s_nm _))] (allT rfl) ⟨⟨_, rfl, .of_eq (row_eq (by rw [hdu]))⟩, trivial⟩ rfl rfl ?_
  rw [hdu] at htk htb
  have hrl : (u32s (ps ++ u :: us.drop (at' + i + 1))).length = us.length * 1 := by
    rw [u32s_len, List.length_append, List.length_cons, List.length_drop, hpl]; omega
  have hgu : (u32s (ps ++ u :: us.drop (at' + i + 1)))[((at' + i : Nat) : Int).toNat * 1]? = some (.int .u32 u) := by
    rw [Int.toNat_natCast, Nat.mul_one]; exact u32s_get (get_mid hpl)
  by_cases hlt : i < v.length
  · refine .reg (.cm rfl rfl (cltT (by omega)) <| .nil) rfl (.sq ?_)
    refine .cT rfl (.skip (Ok.on (.sq (.block ?_))))
    have hvi : v[i]? = some (v.getD i 0) := by simp [hlt]
    have hyl := lows_get hv i
    have hdv : v.drop i = v.getD i 0 :: v.drop (i + 1) := by
      rw [List.drop_eq_getElem_cons hlt]; simp [hlt]
    generalize v.getD i 0 = y at hvi hyl hdv
    rw [hdv] at htk htb
    simp only [takeL, takeB] at htk htb
    have hty : t * y ≤ 4294967295 * 4294967295 := Nat.mul_le_mul (by omega) (by omega)
    have hs : c + t * y < 18446744073709551616 := by omega
    have hm : (c + t * y) % 4294967296 < 4294967296 := Nat.mod_lt _ (by omega)
    refine .reg (.mv rfl <| .ix1 rfl rfl se_exact_nat (by omega) (by omega) (u32s_get hvi) <| .lp1 rfl ly_uint32 <| .asg rfl <| .asg rfl <| .nil) rfl ?_
    refine .reg (.mv rfl <| .mv rfl <| .mv rfl <| .cv rfl cv_uint32_uint64 (wrap_u64t (by omega)) <| .ar rfl rfl (mul_u64 (by omega)) <| .ar rfl rfl (add_u64 hs) <| .asg rfl <| .nil) rfl ?_
    refine .reg (.mvL rfl pin_own <| .mv rfl <| .mv rfl <| .ar rfl rfl (add_i64 (by omega)) <| .mvL rfl pin_own <| .mv rfl <| .mv rfl <| .ar rfl rfl (add_i64 (by omega)) <| .ixO (n := us.length) (m' := 1) rfl rfl rfl se_exact_nat hrl rfl rfl (by omega) (by omega) <| .lr1 rfl rfl ly_uint32 hgu <|
      .mv rfl <| .cv rfl cv_uint64_uint32 (wrap_u32t _) <| .mv rfl <| .call (K_Sub32 u ((c + t * y) % 4294967296) bo hul hm hbo) ⟨rfl, rfl, rfl, trivial⟩ <| .mv rfl <| .ext rfl rfl <| .ext rfl rfl <| .ixO (n := us.length) (m' := 1) rfl rfl rfl se_exact_nat hrl rfl rfl (by omega) (by omega) <|
      .sr1 rfl rfl rfl ly_uint32 rfl rfl (by rw [hrl]; omega) <| .asg rfl <| .nil) rfl ?_
    refine .region (.mv rfl <| .sh rfl rfl (shr32 (by decide)) <| .asg rfl <| .nil) rfl fun _ _ hs => ?_
    refine Ok.on ?_ _ _ hs
    refine .region (.ar rfl rfl (inc_i64 (by omega)) <| .mv rfl <| .nil) rfl fun _ _ hs => ?_
    refine hs.round (m := v.length - i) ⟨(ps ++ [(u + (8589934592 - (c + t * y) % 4294967296 - bo)) % 4294967296], (c + t * y) / 4294967296, if u < (c + t * y) % 4294967296 + bo then 1 else 0, i + 1), by simp [hpl]; omega, hlt, by simp only; omega, by simp only; split <;> omega, ?_, ?_⟩ (by simp only; omega)
      (allT rfl) ⟨⟨_, rfl, .of_eq (row_eq (by rw [u32s_upd, set_mid hpl]; simp only [List.append_assoc, List.singleton_append, Nat.add_assoc]))⟩, trivial⟩ rfl rfl
    · simp only
      rw [htk, List.append_assoc, List.singleton_append, Nat.add_assoc]
    · simp only
      rw [htb, Nat.add_assoc]
  · have : i = v.length := by omega
    subst this
    refine .reg (.cm rfl rfl (cltF (by omega)) <| .nil) rfl (.sq ?_)
    refine .cF rfl (.exit (Ok.on ?_))
    rw [List.drop_length] at htk htb
    simp only [takeL, takeB] at htk htb
    have hm : c % 4294967296 = c := Nat.mod_eq_of_lt hc
    rw [hm] at htk htb
    refine .reg (.mvL rfl pin_own <| .mv rfl <| .mv rfl <| .ln rfl is_exact_nat <| .ar rfl rfl (add_i64 (by omega)) <| .mvL rfl pin_own <| .mv rfl <| .mv rfl <| .ln rfl is_exact_nat <| .ar rfl rfl (add_i64 (by omega)) <| .ixO (n := us.length) (m' := 1) rfl rfl rfl se_exact_nat hrl rfl rfl (by omega) (by omega) <| .lr1 rfl rfl ly_uint32 hgu <|
      .mv rfl <| .cv rfl cv_uint64_uint32 (wrap_u32s hc) <| .mv rfl <| .call (K_Sub32 u c bo hul hc hbo) ⟨rfl, rfl, rfl, trivial⟩ <| .mv rfl <| .ext rfl rfl <| .ext rfl rfl <| .ixO (n := us.length) (m' := 1) rfl rfl rfl se_exact_nat hrl rfl rfl (by omega) (by omega) <|
      .sr1 rfl rfl rfl ly_uint32 rfl rfl (by rw [hrl]; omega) <| .asg rfl <| .nil) rfl ?_
    refine .reg (.mv rfl <| .cm rfl rfl (b := takeB t v 0 0 (us.drop at') != 0) (by rw [htb]; split <;> rfl) <| .asg rfl <| .nil) rfl ?_
    refine .sub [(0, pin 0 b), (8, .bool (takeB t v 0 0 (us.drop at') != 0))] [(0, .row 1 230 (u32s (taken us v t at')) (u32s_nm _))] (allT rfl) ⟨⟨_, rfl, .of_eq (row_eq (by rw [u32s_upd, set_mid hpl, htk]))⟩, trivial⟩ rfl rfl ?_
    exact .retM1 (t := 0) (r := 0) hF (fun _ _ h => h) rfl (.tmp rfl) (.refl _) rfl rfl rfl
theorem Sat.endM0 {P : Program} {c : Ctx} {T : List (Nat × D)} {H : List (Nat × Hp)} {fn : Func} {t r m : Nat} {e : TypeId} {l : List D} {hl : nms l = []} {b : Value} {a : Act} {w : World} (hL : ∀ k, c.L k → b ≠ .slice none 0 0 ∧ k = blk b) (hx : fn.results = #[])
    (ht : tget T t = some (pin r b)) (hh : hget H r = some (.row m e l hl)) (hs : Sat c (tget T) (hget H) a w) : bodyPost P fn (RetM c .any m e l hl b) .normal a w := by
  obtain ⟨ε, φ, hs⟩ := hs
  obtain ⟨hrow, hS⟩ := pin_spec hL ht hh hs
  refine ⟨hs.df, .tuple #[], ?_, .tuple #[], φ r, rfl, trivial, (Hp.row m e l hl).mono hrow (fun r h => by cases h) (fun k hk _ => ⟨hS k hk, rfl⟩) (fun _ _ => rfl), hs.bel⟩
  rw [results_rvf, hx]
  simp
theorem K_give (us v : List Nat) (at' : Nat) (hus : lows us) (hv : lows v) (hl : at' + v.length < us.length) (hmax : us.length ≤ 2199023255552) :
    CtrM PP 228 [dgD v, .int .i64 at'] 1 230 (u32s us) .any (u32s (given us v at')) := by
  refine .of (hl := u32s_nm us) (hl' := u32s_nm _) Go.Proofs.Tryz.func228 rfl (by kernel_rfl) rfl rfl rfl (fun A w0 b F hF => ?_)
  refine .reg (.asg rfl <| .nil) rfl (.sq ?_)
  refine .reg (.mv rfl <| .ln rfl is_exact_nat <| .mv rfl <| .nil) rfl ?_
  refine .block (.loop (ι := { p : List Nat × Nat × Nat // p.1.length = at' + p.2.2 ∧ p.2.2 ≤ v.length ∧ p.2.1 ≤ 1 ∧ given us v at' = p.1 ++ giveL (v.drop p.2.2) p.2.1 (us.drop (at' + p.2.2)) })
    (fun p => [(0, pin 0 b), (1, dgD v), (2, .int .i64 at'), (6, .int .u32 p.1.2.1), (9, dgD v), (10, .int .i64 v.length), (11, .int .i64 p.1.2.2)])
    (fun p => [(0, .row 1 230 (u32s (p.1.1 ++ us.drop (at' + p.1.2.2))) (u32s_nm _))]) (fun p => v.length - p.1.2.2)
    ⟨(us.take at', 0, 0), by simp; omega, Nat.zero_le _, by simp, rfl⟩ (allT rfl) ⟨⟨_, rfl, .of_eq (row_eq (by simp))⟩, trivial⟩ rfl rfl ?_)
  rintro ⟨⟨ps, c, i⟩, hpl, hi, hc, htk⟩
  simp only at hpl hi hc htk
  show Ok PP _ [(0, pin 0 b), (1, dgD v), (2, .int .i64 at'), (6, .int .u32 c), (9, dgD v), (10, .int .i64 v.length), (11, .int .i64 i)] [(0, .row 1 230 (u32s (ps ++ us.drop (at' + i))) (u32s_nm _))] _ _
  have hdu : us.drop (at' + i) = us.getD (at' + i) 0 :: us.drop (at' + i + 1) := by
    rw [List.drop_eq_getElem_cons (show at' + i < us.length by omega)]; simp [show at' + i < us.length by omega]
  have hul := lows_get hus (at' + i)
  generalize us.getD (at' + i) 0 = u at hdu hul
  refine .sub [(0, pin 0 b), (1, dgD v), (2, .int .i64 at'), (6, .int .u32 c), (9, dgD v), (10, .int .i64 v.length), (11, .int .i64 i)] [(0, .row 1 230 (u32s (ps ++ u :: us.drop (at' + i + 1))) (u32s_nm _))] (allT rfl) ⟨⟨_, rfl, .of_eq (row_eq (by rw [hdu]))⟩, trivial⟩ rfl rfl ?_
  rw [hdu] at htk
  have hrl : (u32s (ps ++ u :: us.drop (at' + i + 1))).length = us.length * 1 := by
    rw [u32s_len, List.length_append, List.length_cons, List.length_drop, hpl]; omega
  have hgu : (u32s (ps ++ u :: us.drop (at' + i + 1)))[((at' + i : Nat) : Int).toNat * 1]? = some (.int .u32 u) := by
    rw [Int.toNat_natCast, Nat.mul_one]; exact u32s_get (get_mid hpl)
  by_cases hlt : i < v.length
  · refine .reg (.cm rfl rfl (cltT (by omega)) <| .nil) rfl (.sq ?_)
    refine .cT rfl (.skip (Ok.on (.sq (.block ?_))))
    have hvi : v[i]? = some (v.getD i 0) := by simp [hlt]
    have hyl := lows_get hv i
    have hdv : v.drop i = v.getD i 0 :: v.drop (i + 1) := by
      rw [List.drop_eq_getElem_cons hlt]; simp [hlt]
    generalize v.getD i 0 = y at hvi hyl hdv
    rw [hdv] at htk
    simp only [giveL] at htk
    refine .reg (.mv rfl <| .ix1 rfl rfl se_exact_nat (by omega) (by omega) (u32s_get hvi) <| .lp1 rfl ly_uint32 <| .asg rfl <| .asg rfl <| .nil) rfl ?_
    refine .region (.mvL rfl pin_own <| .mv rfl <| .mv rfl <| .ar rfl rfl (add_i64 (by omega)) <| .mvL rfl pin_own <| .mv rfl <| .mv rfl <| .ar rfl rfl (add_i64 (by omega)) <| .ixO (n := us.length) (m' := 1) rfl rfl rfl se_exact_nat hrl rfl rfl (by omega) (by omega) <| .lr1 rfl rfl ly_uint32 hgu <|
      .mv rfl <| .mv rfl <| .call (K_Add32 u y c hul hyl hc) ⟨rfl, rfl, rfl, trivial⟩ <| .mv rfl <| .ext rfl rfl <| .ext rfl rfl <| .ixO (n := us.length) (m' := 1) rfl rfl rfl se_exact_nat hrl rfl rfl (by omega) (by omega) <|
      .sr1 rfl rfl rfl ly_uint32 rfl rfl (by rw [hrl]; omega) <| .asg rfl <| .nil) rfl fun _ _ hs => ?_
    refine Ok.on ?_ _ _ hs
    refine .region (.ar rfl rfl (inc_i64 (by omega)) <| .mv rfl <| .nil) rfl fun _ _ hs => ?_
    refine hs.round (m := v.length - i) ⟨(ps ++ [(u + y + c) % 4294967296], (u + y + c) / 4294967296, i + 1), by simp [hpl]; omega, hlt, by simp only; omega, ?_⟩ (by simp only; omega)
      (allT rfl) ⟨⟨_, rfl, .of_eq (row_eq (by rw [u32s_upd, set_mid hpl]; simp only [List.append_assoc, List.singleton_append, Nat.add_assoc]))⟩, trivial⟩ rfl rfl
    simp only
    rw [htk, List.append_assoc, List.singleton_append, Nat.add_assoc at']
  · have : i = v.length := by omega
    subst this
    refine .reg (.cm rfl rfl (cltF (by omega)) <| .nil) rfl (.sq ?_)
    refine .cF rfl (.exit (Ok.on ?_))
    rw [List.drop_length] at htk
    simp only [giveL] at htk
    have hw : IntKind.u32.wrap ((u : Int) + (c : Int)) = (((u + c) % 4294967296 : Nat) : Int) := wrap_u32 (by omega)
    refine .region (.mvL rfl pin_own <| .mv rfl <| .mv rfl <| .ln rfl is_exact_nat <| .ar rfl rfl (add_i64 (by omega)) <| .ixO (n := us.length) (m' := 1) rfl rfl rfl se_exact_nat hrl rfl rfl (by omega) (by omega) <| .lr1 rfl rfl ly_uint32 hgu <|
      .mv rfl <| .ar rfl rfl (congrArg some hw) <| .ixO (n := us.length) (m' := 1) rfl rfl rfl se_exact_nat hrl rfl rfl (by omega) (by omega) <|
      .sr1 rfl rfl rfl ly_uint32 rfl rfl (by rw [hrl]; omega) <| .nil) rfl fun _ _ hs => ?_
    refine (hs.sub (T' := [(0, pin 0 b)]) (H' := [(0, .row 1 230 (u32s (given us v at')) (u32s_nm _))]) (allT rfl) ⟨⟨_, rfl, .of_eq (row_eq (by rw [u32s_upd, set_mid hpl, htk]))⟩, trivial⟩ rfl rfl).endM0 (t := 0) (r := 0) hF rfl rfl rfl
end Go.Am
namespace Go.Am
theorem guess_ge {U V v1 R two q : Nat} (hV : v1 * R ≤ V) (hU : U < (two + 1) * R) (hq : q * V ≤ U) : q * v1 ≤ two := by
  have h1 : q * (v1 * R) ≤ q * V := Nat.mul_le_mul_left _ hV
  rw [← Nat.mul_assoc] at h1
  have h2 : q * v1 * R < (two + 1) * R := by omega
  have := Nat.lt_of_mul_lt_mul_right h2
  omega
theorem guess_gt {U V B v1 v2 u2 P two g rest q : Nat} (hV : (v1 * B + v2) * P ≤ V) (hU : U < (two * B + u2 + 1) * P) (hg : g * v1 + rest = two) (ht : rest * B + u2 < g * v2) (hq : q * V ≤ U) : q < g := by
  apply Nat.lt_of_not_le
  intro hle
  have h1 : g * ((v1 * B + v2) * P) ≤ q * V := Nat.mul_le_mul hle hV
  have h2 : g * (v1 * B + v2) * P < (two * B + u2 + 1) * P := by rw [Nat.mul_assoc]; omega
  have h3 := Nat.lt_of_mul_lt_mul_right h2
  have h4 : g * (v1 * B + v2) = g * v1 * B + g * v2 := by rw [Nat.mul_add, Nat.mul_assoc]
  have h5 : two * B = g * v1 * B + rest * B := by rw [← hg, Nat.add_mul]
  omega
theorem guess_le {U V B v1 v2 u2 P two g rest : Nat} (hV1 : B * P ≤ V) (hV : V < (v1 * B + v2 + 1) * P) (hU : (two * B + u2) * P ≤ U) (hg : g * v1 + rest = two) (ht : g * v2 ≤ rest * B + u2) (hgB : g ≤ B) : g * V ≤ U + V := by
  have h4 : g * (v1 * B + v2) = g * v1 * B + g * v2 := by rw [Nat.mul_add, Nat.mul_assoc]
  have h5 : two * B = g * v1 * B + rest * B := by rw [← hg, Nat.add_mul]
  have h6 : g * (v1 * B + v2) ≤ two * B + u2 := by omega
  have h7 : g * (v1 * B + v2) * P ≤ (two * B + u2) * P := Nat.mul_le_mul_right _ h6
  have h8 : g * V ≤ g * ((v1 * B + v2 + 1) * P) := Nat.mul_le_mul_left _ (Nat.le_of_lt hV)
  have h9 : g * ((v1 * B + v2 + 1) * P) = g * (v1 * B + v2) * P + g * P := by rw [← Nat.mul_assoc, Nat.mul_add g, Nat.mul_one, Nat.add_mul]
  have h10 : g * P ≤ B * P := Nat.mul_le_mul_right _ hgB
  omega
theorem window {U V g q X Y M bo k : Nat} (hq : q = U / V) (hV : 0 < V) (h1 : q ≤ g) (h2 : g * V ≤ U + V) (_hUM : U < M) (hbo : bo ≤ 1) (hX : X < M) (hT : X + g * V = U + M * bo) (hk : k ≤ 1) (hY : Y < M) (_hVM : V < M) (hG : Y + M * k = X + V) :
    (bo = 0 ∧ g = q ∧ X = U % V) ∨ (bo = 1 ∧ g = q + 1 ∧ Y = U % V) := by
  have hdm := Nat.div_add_mod U V
  have hm := Nat.mod_lt U hV
  rw [← hq] at hdm
  have hc : V * q = q * V := Nat.mul_comm _ _
  have hg : g = q ∨ g = q + 1 := by
    rcases Nat.lt_or_ge (q + 1) g with h | h
    · exfalso
      have h3 : (q + 2) * V ≤ g * V := Nat.mul_le_mul_right _ h
      rw [Nat.add_mul] at h3
      omega
    · omega
  have hb : bo = 0 ∨ bo = 1 := by omega
  have hkk : k = 0 ∨ k = 1 := by omega
  rcases hg with rfl | rfl
  · left
    rcases hb with rfl | rfl
    · refine ⟨rfl, rfl, ?_⟩; omega
    · exfalso; omega
  · right
    rw [Nat.add_mul, Nat.one_mul] at hT
    rcases hb with rfl | rfl
    · exfalso; omega
    · refine ⟨rfl, rfl, ?_⟩
      rcases hkk with rfl | rfl <;> omega
end Go.Am
namespace Go.Am
open Go.RowKit
theorem K_add (x y : Nat) (hx : (digs x).length ≤ 1099511627776) (hy : (digs y).length ≤ 1099511627776) : Ctr PP 212 [natD x, natD y] (natD (x + y)) :=
  K_add' (digs x) (digs y) (lows_digs x) (lows_digs y) hx hy (by rw [val_digs, val_digs])
def decv (l : List UInt8) : Nat := l.foldl (fun a b => a * 10 + (b.toNat - 48)) 0
theorem decv_snoc (l : List UInt8) (b : UInt8) : decv (l ++ [b]) = decv l * 10 + (b.toNat - 48) := by simp [decv]
def decs (l : List UInt8) : Prop := ∀ b ∈ l, 48 ≤ b.toNat ∧ b.toNat ≤ 57
theorem decv_lt {l : List UInt8} (h : decs l) : decv l < 4294967296 ^ l.length := by
  have key : ∀ (n : Nat) (l : List UInt8), l.length = n → decs l → decv l < 4294967296 ^ n := by
    intro n
    induction n with
    | zero => intro l hl _; rw [List.length_eq_zero_iff.1 hl]; simp [decv]
    | succ n ih =>
      intro l hl hd
      have hne : l ≠ [] := by intro e; subst e; simp at hl
      rw [← List.dropLast_concat_getLast hne, decv_snoc]
      have h1 := ih l.dropLast (by simp [hl]) (fun b hb => hd b (List.dropLast_subset _ hb))
      have h2 := hd (l.getLast hne) (List.getLast_mem hne)
      have hp : (4294967296 : Nat) ^ (n + 1) = 4294967296 ^ n * 4294967296 := Nat.pow_succ ..
      rw [hp]
      generalize (4294967296 : Nat) ^ n = P at *
      omega
  exact key _ l rfl h
theorem K_natText (s : ByteArray) (hs : s.size ≤ 1000000) (hd : decs s.data.toList) : Ctr PP 148 [.str s] (natD (decv s.data.toList)) := by
  refine .of Go.Proofs.Tryz.func148 rfl (by kernel_rfl) rfl rfl rfl (fun A w0 => ?_)
  have hsl : s.data.toList.length = s.size := Array.length_toList
  refine .reg (.asg rfl <| .nil) rfl ?_
  refine .reg (.asg rfl <| .nil) rfl (.sq ?_)
  refine .reg (.mv rfl <| .lnT rfl is_string <| .mv rfl <| .nil) rfl ?_
  refine .block (.loop (ι := { i : Nat // i ≤ s.size }) (fun i => [(0, .str s), (3, natD (decv (s.data.toList.take i.1))), (6, .int .i64 s.size), (7, .int .i64 i.1)]) (fun _ => []) (fun i => s.size - i.1)
    ⟨0, Nat.zero_le _⟩ ⟨⟨_, rfl, .refl _⟩, ⟨_, rfl, nil_nat⟩, ⟨_, rfl, .refl _⟩, ⟨_, rfl, .refl _⟩, trivial⟩ trivial rfl rfl ?_)
  rintro ⟨i, hi⟩
  show Ok PP _ [(0, .str s), (3, natD (decv (s.data.toList.take i))), (6, .int .i64 s.size), (7, .int .i64 i)] [] _ _
  by_cases hlt : i < s.size
  · refine .reg (.cm rfl rfl (cltT (by omega)) <| .nil) rfl (.sq ?_)
    refine .cT rfl (.skip (Ok.on (.sq (.block ?_))))
    have hb : s[i]? = some s[i] := getElem?_pos s i hlt
    have hbl : s.data.toList[i]? = some s[i] := by
      rw [Array.getElem?_toList, ByteArray.getElem_eq_getElem_data]
      exact Array.getElem?_eq_getElem _
    have hdb := hd s[i] (List.mem_of_getElem? hbl)
    have htk : s.data.toList.take (i + 1) = s.data.toList.take i ++ [s[i]] := by
      rw [List.take_add_one, hbl]; rfl
    have hlen : (s.data.toList.take i).length = i := by rw [List.length_take, hsl]; omega
    have hdt : decs (s.data.toList.take i) := fun b hb => hd b (List.mem_of_mem_take hb)
    have hvl := decv_lt hdt
    rw [hlen] at hvl
    have hl1 := digs_len_le hvl
    have hvl2 := decv_lt (l := s.data.toList.take (i + 1)) (fun b hb => hd b (List.mem_of_mem_take hb))
    have hlen2 : (s.data.toList.take (i + 1)).length = i + 1 := by rw [htk, List.length_append, hlen]; rfl
    rw [hlen2, htk, decv_snoc] at hvl2
    generalize s[i] = b at *
    generalize hv0 : decv (s.data.toList.take i) = v at *
    have hl2 : (digs (v * 10)).length ≤ i + 1 := digs_len_le (Nat.lt_of_le_of_lt (Nat.le_add_right _ _) hvl2)
    have hl3 : (digs (b.toNat - 48)).length ≤ 1 := digs_len_le (by omega)
    have hl4 : (digs 10).length ≤ 1 := digs_len_le (by omega)
    have hw : IntKind.u8.wrap ((b.toNat : Int) - 48) = ((b.toNat - 48 : Nat) : Int) := by rw [IntKind.wrap_u8]; omega
    refine .reg (.mv rfl <| .asg rfl <| .nil) rfl ?_
    refine .regionD hmix (.mv rfl <| .call (K_natOf 10 (by omega)) ⟨rfl, trivial⟩ <| .call (K_mul v 10 (by omega) (by omega)) ⟨rfl, rfl, trivial⟩ <| .mv rfl <| .mv rfl <| .ixT rfl rfl is_string (by omega) hb <| .ar rfl rfl (congrArg some hw) <| .cv rfl cv_uint8_uint64 (wrap_u64t (by omega)) <|
      .call (K_natOf (b.toNat - 48) (by omega)) ⟨rfl, trivial⟩ <| .call (K_add (v * 10) (b.toNat - 48) (by omega) (by omega)) ⟨rfl, rfl, trivial⟩ <| .asg rfl <| .nil) rfl (by kernel_rfl) fun _ _ hs => ?_
    refine Ok.on ?_ _ _ hs
    refine .region (.ar rfl rfl (inc_i64 (by omega)) <| .mv rfl <| .nil) rfl fun _ _ hs => ?_
    exact hs.round (m := s.size - i) ⟨i + 1, hlt⟩ (by simp only; omega) ⟨⟨_, rfl, .refl _⟩, ⟨_, rfl, .of_eq (by rw [htk, decv_snoc, hv0])⟩, ⟨_, rfl, .refl _⟩, ⟨_, rfl, .refl _⟩, trivial⟩ trivial rfl rfl
  · have : i = s.size := by omega
    subst this
    refine .reg (.cm rfl rfl (cltF (by omega)) <| .nil) rfl (.sq ?_)
    refine .cF rfl (.exit (Ok.on ?_))
    refine .reg (.mv rfl <| .asg rfl <| .nil) rfl ?_
    exact .ret1 rfl (.tmp rfl) (.of_eq (by rw [List.take_of_length_le (by omega)])) rfl
end Go.Am
namespace Go.Am
open Go.RowKit
end Go.Am
namespace Go.Am
theorem ring2 (B P a b : Nat) : P * a + P * B * b = P * (b * B + a) := by
  rw [Nat.mul_add, Nat.mul_assoc, Nat.mul_comm B b]; omega
theorem ring3 (B P a b c : Nat) : P * a + P * B * b + P * B * B * c = P * ((c * B + b) * B + a) := by
  have e : P * B * B * c = P * (c * B * B) := by rw [Nat.mul_assoc, Nat.mul_assoc, Nat.mul_comm B c, Nat.mul_comm B (c * B)]
  rw [e, ring2, ← Nat.mul_add, Nat.add_mul]
  congr 1; omega
theorem top_two {l : List Nat} {p a b : Nat} (ha : l[p]? = some a) (hb : l[p + 1]? = some b) : val (l.take (p + 2)) = val (l.take p) + 4294967296 ^ p * (b * 4294967296 + a) := by
  have h1 := val_take_succ hb
  have h2 := val_take_succ ha
  rw [← ring2, show p + 2 = p + 1 + 1 from rfl, h1, h2, Nat.pow_succ, Nat.add_assoc]
theorem top_three {l : List Nat} {p a b c : Nat} (ha : l[p]? = some a) (hb : l[p + 1]? = some b) (hc : l[p + 2]? = some c) : val (l.take (p + 3)) = val (l.take p) + 4294967296 ^ p * ((c * 4294967296 + b) * 4294967296 + a) := by
  have h1 := val_take_succ hc
  have h2 := val_take_succ hb
  have h3 := val_take_succ ha
  rw [← ring3, show p + 3 = p + 2 + 1 from rfl, h1, show p + 2 = p + 1 + 1 from rfl, h2, h3, Nat.pow_succ, Nat.pow_succ, Nat.add_assoc, Nat.add_assoc, Nat.add_assoc, Nat.pow_succ]
theorem between {X P t U : Nat} (h : U = X + P * t) (hX : X < P) : t * P ≤ U ∧ U < (t + 1) * P := by
  rw [h, Nat.add_mul, Nat.one_mul, Nat.mul_comm P t]
  omega
theorem guess_init {q two v1 : Nat} (h : q * v1 ≤ two) (h1 : 0 < v1) : q ≤ two / v1 := (Nat.le_div_iff_mul_le h1).2 h
theorem guess_next {g v1 rest two : Nat} (h : g * v1 + rest = two) (hg : 0 < g) : (g - 1) * v1 + (rest + v1) = two := by
  obtain ⟨k, rfl⟩ : ∃ k, g = k + 1 := ⟨g - 1, by omega⟩
  rw [Nat.add_mul, Nat.one_mul] at h
  rw [Nat.add_sub_cancel]; omega
theorem guess_small {g v1 rest B u1 u0 : Nat} (h : g * v1 + rest = u1 * B + u0) (hr : B ≤ rest) (hu1 : u1 ≤ v1) (hu0 : u0 < B) : g < B := by
  have h1 : u1 * B ≤ v1 * B := Nat.mul_le_mul_right _ hu1
  have h2 : g * v1 < B * v1 := by rw [Nat.mul_comm B v1]; omega
  exact Nat.lt_of_mul_lt_mul_right h2
end Go.Am
namespace Go.Am
open Go.RowKit
structure Win (us v : List Nat) (i n : Nat) : Prop where
  n2 : 2 ≤ n
  vl : v.length = n
  lv : lows v
  lu : lows us
  fit : i + n < us.length
  big : 4294967296 ^ n ≤ 2 * val v
  less : val (us.drop (i + 1)) < val v
theorem Win.rest {us v : List Nat} {i n : Nat} (h : Win us v i n) : val (us.drop i) = val ((us.drop i).take (n + 1)) := by
  have h1 := val_split (us.drop (i + 1)) n (by rw [List.length_drop]; have := h.fit; omega)
  have h2 := val_lt h.lv
  rw [h.vl] at h2
  have h3 : val ((us.drop (i + 1)).drop n) = 0 := by
    rcases Nat.eq_zero_or_pos (val ((us.drop (i + 1)).drop n)) with h | h'
    · exact h
    · exfalso
      have := Nat.mul_le_mul_left (4294967296 ^ n) h'
      have := h.less
      omega
  have h4 := val_split (us.drop i) (n + 1) (by rw [List.length_drop]; have := h.fit; omega)
  rw [List.drop_drop] at h3 h4
  rw [show i + (n + 1) = i + 1 + n by omega, h3, Nat.mul_zero, Nat.add_zero] at h4
  exact h4
theorem getD_some {l : List Nat} {i : Nat} (h : i < l.length) : l[i]? = some (l.getD i 0) := by simp [h]
theorem Win.win {us v : List Nat} {i p : Nat} (h : Win us v i (p + 2)) :
    ((us.getD (i + p + 2) 0 * 4294967296 + us.getD (i + p + 1) 0) * 4294967296 + us.getD (i + p) 0) * 4294967296 ^ p ≤ val (us.drop i) ∧
    val (us.drop i) < ((us.getD (i + p + 2) 0 * 4294967296 + us.getD (i + p + 1) 0) * 4294967296 + us.getD (i + p) 0 + 1) * 4294967296 ^ p := by
  have hf := h.fit
  have g : ∀ k, k < p + 3 → (us.drop i)[k]? = some (us.getD (i + k) 0) := fun k hk => by
    rw [List.getElem?_drop]; exact getD_some (by omega)
  have h3 := top_three (l := us.drop i) (p := p) (g p (by omega)) (g (p + 1) (by omega)) (g (p + 2) (by omega))
  rw [h.rest]
  exact between h3 (val_take_lt (lows_drop h.lu i) p)
theorem Win.div {us v : List Nat} {i p : Nat} (h : Win us v i (p + 2)) :
    (v.getD (p + 1) 0 * 4294967296 + v.getD p 0) * 4294967296 ^ p ≤ val v ∧ val v < (v.getD (p + 1) 0 * 4294967296 + v.getD p 0 + 1) * 4294967296 ^ p := by
  have hl := h.vl
  have h3 := top_two (l := v) (p := p) (getD_some (by omega)) (getD_some (by omega))
  rw [← hl, List.take_length] at h3
  exact between h3 (val_take_lt h.lv p)
theorem ring4 (a B P : Nat) : a * B * B * P = B * (a * B * P) := by
  rw [Nat.mul_right_comm (a * B) B P, Nat.mul_comm (a * B * P) B]
theorem low_top {v1 v2 : Nat} (h1 : v1 < 2147483648) (h2 : v2 < 4294967296) : v1 * 4294967296 + v2 + 1 ≤ 9223372036854775808 := by omega
theorem Win.size {us v : List Nat} {i p : Nat} (h : Win us v i (p + 2)) : 4294967296 * 4294967296 ^ p ≤ val v ∧ 2147483648 ≤ v.getD (p + 1) 0 := by
  have hb := h.big
  have hd := h.div.2
  have hv2 := lows_get h.lv p
  rw [Nat.pow_succ, Nat.pow_succ] at hb
  generalize (4294967296 : Nat) ^ p = P at *
  generalize v.getD (p + 1) 0 = v1 at *
  generalize v.getD p 0 = v2 at *
  generalize val v = V at *
  refine ⟨by omega, ?_⟩
  apply Nat.le_of_not_lt
  intro hlt
  have h0 := low_top hlt hv2
  have h1 := Nat.mul_le_mul_right P h0
  omega
theorem Win.top {us v : List Nat} {i p : Nat} (h : Win us v i (p + 2)) : us.getD (i + p + 2) 0 ≤ v.getD (p + 1) 0 := by
  have hu := h.win.1
  have hd := h.div.2
  have hr := val_drop_get us i
  have hul := lows_get h.lu i
  have hv2 := lows_get h.lv p
  have hs := h.less
  generalize us.getD (i + p + 2) 0 = a at *
  generalize us.getD (i + p + 1) 0 = b at *
  generalize us.getD (i + p) 0 = c at *
  generalize us.getD i 0 = d at *
  generalize val (us.drop i) = U at *
  generalize val (us.drop (i + 1)) = W at *
  generalize (4294967296 : Nat) ^ p = P at *
  generalize v.getD (p + 1) 0 = v1 at *
  generalize v.getD p 0 = v2 at *
  generalize val v = V at *
  apply Nat.le_of_not_lt
  intro hlt
  have h1 : ((v1 + 1) * 4294967296 * 4294967296) * P ≤ ((a * 4294967296 + b) * 4294967296 + c) * P := Nat.mul_le_mul_right _ (by omega)
  have h2 : (v1 * 4294967296 + v2 + 1) * P ≤ ((v1 + 1) * 4294967296) * P := Nat.mul_le_mul_right _ (by omega)
  have h3 : ((v1 + 1) * 4294967296 * 4294967296) * P = 4294967296 * (((v1 + 1) * 4294967296) * P) := ring4 ..
  omega
end Go.Am
namespace Go.Am
theorem ge_core {U V B P two c v1 v2 q : Nat} (hw : U < (two * B + c + 1) * P) (hd : (v1 * B + v2) * P ≤ V) (hc : c < B) (hq : q * V ≤ U) : q * v1 ≤ two := by
  refine guess_ge (R := B * P) (Nat.le_trans ?_ hd) (Nat.lt_of_lt_of_le hw ?_) hq
  · rw [← Nat.mul_assoc]; exact Nat.mul_le_mul_right _ (Nat.le_add_right _ _)
  · rw [← Nat.mul_assoc]; exact Nat.mul_le_mul_right _ (by rw [Nat.add_mul, Nat.one_mul]; omega)
theorem Win.ge {us v : List Nat} {i p q : Nat} (h : Win us v i (p + 2)) (hq : q * val v ≤ val (us.drop i)) : q * v.getD (p + 1) 0 ≤ us.getD (i + p + 2) 0 * 4294967296 + us.getD (i + p + 1) 0 :=
  ge_core h.win.2 h.div.1 (lows_get h.lu (i + p)) hq
end Go.Am
namespace Go.Am
structure Stood (us v : List Nat) (i p g : Nat) : Prop where
  ge : val (us.drop i) / val v ≤ g
  le : g * val v ≤ val (us.drop i) + val v
  lt : g < 4294967296
theorem Win.stood {us v : List Nat} {i p g rest : Nat} (h : Win us v i (p + 2)) (hge : val (us.drop i) / val v ≤ g) (hg : g * v.getD (p + 1) 0 + rest = us.getD (i + p + 2) 0 * 4294967296 + us.getD (i + p + 1) 0)
    (ht : g * v.getD p 0 ≤ rest * 4294967296 + us.getD (i + p) 0) (hgB : g < 4294967296) : Stood us v i p g :=
  ⟨hge, guess_le h.size.1 h.div.2 h.win.1 hg ht (Nat.le_of_lt hgB), hgB⟩
theorem taken_len (us v : List Nat) (t i : Nat) : (taken us v t i).length = us.length := by
  rw [taken, List.length_append, takeL_len, List.length_take, List.length_drop]; omega
theorem taken_drop {us v : List Nat} {t i : Nat} (h : i ≤ us.length) : (taken us v t i).drop i = takeL t v 0 0 (us.drop i) := by
  rw [taken, List.drop_append_of_le_length (by simp; omega), List.drop_of_length_le (by simp; omega), List.nil_append]
theorem taken_take {us v : List Nat} {t i : Nat} (h : i ≤ us.length) : (taken us v t i).take i = us.take i := by
  rw [taken, List.take_append_of_le_length (by simp; omega), List.take_of_length_le (by simp; omega)]
theorem taken_lows {us v : List Nat} {t i : Nat} (h : lows us) : lows (taken us v t i) := lows_append (lows_take h i) (takeL_lows t (lows_drop h i))
theorem given_len (us v : List Nat) (i : Nat) : (given us v i).length = us.length := by
  rw [given, List.length_append, giveL_len, List.length_take, List.length_drop]; omega
theorem given_drop {us v : List Nat} {i : Nat} (h : i ≤ us.length) : (given us v i).drop i = giveL v 0 (us.drop i) := by
  rw [given, List.drop_append_of_le_length (by simp; omega), List.drop_of_length_le (by simp; omega), List.nil_append]
theorem given_take {us v : List Nat} {i : Nat} (h : i ≤ us.length) : (given us v i).take i = us.take i := by
  rw [given, List.take_append_of_le_length (by simp; omega), List.take_of_length_le (by simp; omega)]
theorem given_lows {us v : List Nat} {i : Nat} (h : lows us) : lows (given us v i) := lows_append (lows_take h i) (giveL_lows (lows_drop h i))
theorem Win.above {us v : List Nat} {i n : Nat} (h : Win us v i n) : val ((us.drop i).drop (n + 1)) = 0 := by
  have h1 := h.rest
  have h4 := val_split (us.drop i) (n + 1) (by rw [List.length_drop]; have := h.fit; omega)
  have hp : 0 < 4294967296 ^ (n + 1) := Nat.pow_pos (by omega)
  generalize (4294967296 : Nat) ^ (n + 1) = P at *
  rcases Nat.eq_zero_or_pos (val ((us.drop i).drop (n + 1))) with h0 | h0
  · exact h0
  · have := Nat.mul_le_mul hp h0
    omega
theorem Win.step {us v : List Nat} {i p g : Nat} (h : Win us v i (p + 2)) (hs : Stood us v i p g) :
    (takeB g v 0 0 (us.drop i) = 0 ∧ g = val (us.drop i) / val v ∧ val ((taken us v g i).drop i) = val (us.drop i) % val v) ∨
    (takeB g v 0 0 (us.drop i) = 1 ∧ g = val (us.drop i) / val v + 1 ∧ val ((given (taken us v g i) v i).drop i) = val (us.drop i) % val v) := by
  have hf := h.fit
  have hil : i ≤ us.length := by omega
  have hld : v.length < (us.drop i).length := by rw [List.length_drop, h.vl]; omega
  have hT := takeL_val g hs.lt v 0 0 (us.drop i) h.lv (lows_drop h.lu i) (by omega) (by omega) hld
  have hlt := takeL_lows g (v := v) (c := 0) (b := 0) (lows_drop h.lu i)
  have hlen := takeL_len g v 0 0 (us.drop i)
  obtain ⟨k, hk, hG⟩ := giveL_val v 0 (takeL g v 0 0 (us.drop i)) h.lv hlt (by omega) (by rw [hlen]; exact hld)
  have hbo := takeB_le g v 0 0 (us.drop i)
  have hV : 0 < val v := by
    have := h.size.1
    have h2 : 0 < 4294967296 * 4294967296 ^ p := Nat.mul_pos (by omega) (Nat.pow_pos (by omega))
    exact Nat.lt_of_lt_of_le h2 this
  have hab := h.above
  have hrest := h.rest
  rw [h.vl] at hT hG
  have e1 : val ((taken us v g i).drop i) = val ((takeL g v 0 0 (us.drop i)).take (p + 2 + 1)) := by
    rw [taken_drop hil, val_split _ (p + 2 + 1) (by rw [hlen, ← h.vl]; omega)]
    have := takeL_drop g v 0 0 (us.drop i)
    rw [h.vl] at this
    rw [this, hab, Nat.mul_zero, Nat.add_zero]
  have e2 : val ((given (taken us v g i) v i).drop i) = val ((giveL v 0 (takeL g v 0 0 (us.drop i))).take (p + 2 + 1)) := by
    rw [given_drop (by rw [taken_len]; exact hil), taken_drop hil, val_split _ (p + 2 + 1) (by rw [giveL_len, hlen, ← h.vl]; omega)]
    have g1 := giveL_drop v 0 (takeL g v 0 0 (us.drop i))
    have g2 := takeL_drop g v 0 0 (us.drop i)
    rw [h.vl] at g1 g2
    rw [g1, g2, hab, Nat.mul_zero, Nat.add_zero]
  have hX := val_take_lt hlt (p + 2 + 1)
  have hY := val_take_lt (giveL_lows (v := v) (c := 0) hlt) (p + 2 + 1)
  have hU := val_take_lt (lows_drop h.lu i) (p + 2 + 1)
  have hVM := val_lt h.lv
  rw [h.vl] at hVM
  have hMM : 4294967296 ^ (p + 2) ≤ 4294967296 ^ (p + 2 + 1) := Nat.pow_le_pow_right (by omega) (by omega)
  rw [e1, e2]
  rw [← hrest] at hT hU
  exact window rfl hV hs.ge hs.le hU hbo hX (by rw [← hT]; omega) hk hY (Nat.lt_of_lt_of_le hVM hMM) hG
end Go.Am
namespace Go.Am
open Go.RowKit
theorem Le.tup2 {a b c d : D} (h : Le a c) (k : Le b d) : Le (.tup [a, b]) (.tup [c, d]) := by
  refine ⟨fun ε w S v ⟨vs, e, hv⟩ => ⟨vs, e, ?_⟩, fun r hr => ?_⟩
  · match vs, hv with
    | [x, y], hv => exact ⟨h.1 _ _ _ _ hv.1, k.1 _ _ _ _ hv.2.1, trivial⟩
  · obtain ⟨e, he, hr'⟩ := nms_mem.1 (show r ∈ nms [c, d] from hr)
    simp only [List.mem_cons, List.not_mem_nil, or_false] at he
    rcases he with rfl | rfl
    · exact nms_mem.2 ⟨a, by simp, h.2 r hr'⟩
    · exact nms_mem.2 ⟨b, by simp, k.2 r hr'⟩
theorem digs_one {y : Nat} (h : (digs y).length = 1) : y < 4294967296 ∧ y ≠ 0 ∧ digs y = [y] := by
  have h1 := digs_lt (x := y)
  rw [h] at h1
  have h0 : y ≠ 0 := by intro e; subst e; rw [digs_zero] at h; simp at h
  have hy : y < 4294967296 := by omega
  refine ⟨hy, h0, ?_⟩
  rw [digs_pos h0, Nat.div_eq_of_lt hy, Nat.mod_eq_of_lt hy, digs_zero]
theorem cmpn_nonneg {x y : Nat} (h : y ≤ x) : 0 ≤ cmpn x y := by unfold cmpn; split <;> (try split) <;> omega
theorem blen_mul {y k : Nat} (hy : y ≠ 0) : blen (y * 2 ^ k) = blen y + k := by
  have hp := Nat.two_pow_pos k
  have h := blen_div (x := y * 2 ^ k) k (Nat.le_mul_of_pos_left _ (by omega))
  rw [Nat.mul_div_cancel _ hp] at h
  exact h.symm
theorem shifted {y n d : Nat} (hn : (digs y).length = n + 1) (hd : (digs y)[n]? = some d) (hy : y ≠ 0) (hd32 : blen d ≤ 32) :
    4294967296 ^ (n + 1) ≤ 2 * (y * 2 ^ (32 - blen d)) ∧ (digs (y * 2 ^ (32 - blen d))).length = n + 1 := by
  have hb := blen_digs hn hd
  have hm := blen_mul (k := 32 - blen d) hy
  have hV : blen (y * 2 ^ (32 - blen d)) = 32 * (n + 1) := by omega
  have hV0 : y * 2 ^ (32 - blen d) ≠ 0 := Nat.mul_ne_zero hy (Nat.pos_iff_ne_zero.1 (Nat.two_pow_pos _))
  generalize y * 2 ^ (32 - blen d) = V at *
  have h1 := blen_lt V
  have h2 := blen_le hV0
  rw [hV] at h1 h2
  have hp : (4294967296 : Nat) ^ (n + 1) = 2 ^ (32 * (n + 1)) := by rw [Nat.pow_mul]
  have hq : (2 : Nat) ^ (32 * (n + 1)) = 2 * 2 ^ (32 * (n + 1) - 1) := by
    conv => lhs; rw [show 32 * (n + 1) = (32 * (n + 1) - 1) + 1 by omega, Nat.pow_succ, Nat.mul_comm]
  have h3 : 4294967296 ^ (n + 1) ≤ 2 * V := by rw [hp, hq]; exact Nat.mul_le_mul_left _ h2
  refine ⟨h3, ?_⟩
  have h4 := digs_len_le (x := V) (n := n + 1) (by rw [hp]; exact h1)
  have h5 : ¬ (digs V).length ≤ n := by
    intro hle
    have h6 := digs_lt (x := V)
    have h7 : 4294967296 ^ (digs V).length ≤ 4294967296 ^ n := Nat.pow_le_pow_right (by omega) hle
    rw [Nat.pow_succ] at h3
    generalize (4294967296 : Nat) ^ n = P at *
    omega
  omega
theorem digit_sum {t P U q r V Z X B : Nat} (h : t + P * U + V * (P * B * Z) = X) (hU : V * q + r = U) : t + P * r + V * (P * (q + B * Z)) = X := by
  rw [← h, ← hU, Nat.mul_add P q, Nat.mul_add V, Nat.mul_add P (V * q), Nat.mul_left_comm V P q, ← Nat.mul_assoc P B Z]
  omega
end Go.Am
namespace Go.Am
open Go.RowKit
theorem u32s_cut {l : List Nat} {n : Nat} (hw : l.length ≤ n) : (List.replicate (n + 1) (D.int .u32 0)).take 0 ++ u32s l ++ (List.replicate (n + 1) (D.int .u32 0)).drop (0 + l.length) = u32s (l ++ List.replicate (n + 1 - l.length) 0) := by
  rw [List.take_zero, List.nil_append, Nat.zero_add, List.drop_replicate]; simp [u32s]
theorem pad_take {l : List Nat} {n : Nat} (hw : l.length ≤ n) : (l ++ List.replicate (n + 1 - l.length) 0).take n = l ++ List.replicate (n - l.length) 0 := by
  rw [List.take_append, List.take_of_length_le hw, List.take_replicate, Nat.min_eq_left (by omega)]
theorem pad_val (l : List Nat) (n : Nat) : val (l ++ List.replicate n 0) = val l := by
  rw [val_append, val_zeros, Nat.mul_zero, Nat.add_zero]
theorem Win.qlt {us v : List Nat} {i n : Nat} (h : Win us v i n) : val (us.drop i) / val v < 4294967296 := by
  have hV : 0 < val v := by have := h.less; omega
  rw [Nat.div_lt_iff_lt_mul hV]
  have hd : us.drop i = us.getD i 0 :: us.drop (i + 1) := by
    rw [List.drop_eq_getElem_cons (by have := h.fit; omega)]; congr 1
    simp [show i < us.length from by have := h.fit; omega]
  have hl := lows_get h.lu i
  have hless := h.less
  rw [hd, val]
  omega
theorem Win.dec {us v : List Nat} {i p g rest : Nat} (h : Win us v i (p + 2)) (hge : val (us.drop i) / val v ≤ g) (hg : g * v.getD (p + 1) 0 + rest = us.getD (i + p + 2) 0 * 4294967296 + us.getD (i + p + 1) 0)
    (ht : 4294967296 ≤ g ∨ rest * 4294967296 + us.getD (i + p) 0 < g * v.getD p 0) : val (us.drop i) / val v < g := by
  rcases ht with ht | ht
  · have := h.qlt; omega
  · exact guess_gt h.div.1 h.win.2 hg ht (Nat.div_mul_le_self _ _)
theorem Win.brk {us v : List Nat} {i p g rest : Nat} (h : Win us v i (p + 2)) (hge : val (us.drop i) / val v ≤ g) (hg : g * v.getD (p + 1) 0 + rest = us.getD (i + p + 2) 0 * 4294967296 + us.getD (i + p + 1) 0)
    (hr : 4294967296 ≤ rest) : Stood us v i p g := by
  have hgB := guess_small hg hr h.top (lows_get h.lu (i + p + 1))
  refine h.stood hge hg ?_ hgB
  have h2 := lows_get h.lv p
  have h3 : g * v.getD p 0 ≤ 4294967296 * 4294967296 := Nat.mul_le_mul (by omega) (by omega)
  have h4 : 4294967296 * 4294967296 ≤ rest * 4294967296 := Nat.mul_le_mul_right _ hr
  omega
theorem div_bound {x y n la m p : Nat} (hxl : x < 4294967296 ^ la) (hyl : 4294967296 ^ n ≤ y) (hm : n + m = la) (hp : 0 < p) : x * p < y * p * 4294967296 ^ m := by
  have h3 := Nat.mul_le_mul_right (4294967296 ^ m) hyl
  rw [← Nat.pow_add, hm] at h3
  have h4 : x < y * 4294967296 ^ m := Nat.lt_of_lt_of_le hxl h3
  rw [Nat.mul_right_comm]
  exact Nat.mul_lt_mul_of_pos_right h4 hp
theorem div_ini {us0 : List Nat} {V X m : Nat} (h : val us0 = X) (hl : m ≤ us0.length) (hVX : X < V * 4294967296 ^ m) : val (us0.drop m) < V := by
  have h1 := val_split us0 m hl
  rw [h] at h1
  have h2 : val (us0.drop m) * 4294967296 ^ m < V * 4294967296 ^ m := by
    rw [Nat.mul_comm (val _)]
    exact Nat.lt_of_le_of_lt (by rw [h1]; exact Nat.le_add_left _ _) hVX
  exact Nat.lt_of_mul_lt_mul_right h2
theorem div_end {x y p a b : Nat} (hp : 0 < p) (hy : 0 < y) (h : a + y * p * b = x * p) (hl : a < y * p) : b = x / y ∧ a = (x % y) * p := by
  have hV : 0 < y * p := Nat.mul_pos hy hp
  constructor
  · have h1 : x * p / (y * p) = b := by rw [← h, Nat.add_mul_div_left _ _ hV, Nat.div_eq_of_lt hl, Nat.zero_add]
    rw [← h1, Nat.mul_div_mul_right _ _ hp]
  · have h1 : x * p % (y * p) = a := by rw [← h, Nat.add_mul_mod_self_left, Nat.mod_eq_of_lt hl]
    rw [← h1, Nat.mul_mod_mul_right]
theorem low_take {us v : List Nat} {n : Nat} (hn : n ≤ us.length) (hv : lows v) (hvl : v.length = n) (h : val us < val v) : val (us.take n) = val us := by
  have h1 := val_split us n hn
  have h2 := val_lt hv
  rw [hvl] at h2
  have h3 : val (us.drop n) = 0 := by
    rcases Nat.eq_zero_or_pos (val (us.drop n)) with h | h
    · exact h
    · exfalso
      have h4 := Nat.mul_le_mul_left (4294967296 ^ n) h
      rw [Nat.mul_succ, Nat.mul_zero, Nat.zero_add] at h4
      have h5 : 4294967296 ^ n * val (us.drop n) ≤ val us := by rw [h1]; exact Nat.le_add_left _ _
      have h6 := Nat.lt_trans ‹val us < val v› h2
      exact Nat.lt_irrefl _ (Nat.lt_of_le_of_lt (Nat.le_trans h4 h5) h6)
  rw [h1, h3, Nat.mul_zero, Nat.add_zero]
structure DInv (la m V X : Nat) (us qs : List Nat) (i : Nat) : Prop where
  ul : us.length = la + 1
  lu : lows us
  ql : qs.length = m
  lq : lows qs
  im : i ≤ m
  sum : val us + V * (4294967296 ^ i * val (qs.drop i)) = X
  less : val (us.drop i) < V
theorem DInv.init {la m V X : Nat} {us : List Nat} (h1 : us.length = la + 1) (h2 : lows us) (h3 : val us = X) (h4 : val (us.drop m) < V) : DInv la m V X us (List.replicate m 0) m :=
  ⟨h1, h2, List.length_replicate, lows_zeros m, Nat.le_refl _, by rw [List.drop_of_length_le (by simp), h3]; simp [val], h4⟩
theorem DInv.fin {la m V X x y p : Nat} {us qs v : List Nat} {n : Nat} (h : DInv la m V X us qs 0) (hX : x * p = X) (hV : y * p = V) (hp : 0 < p) (hy : 0 < y) (hn : n ≤ us.length) (hv : lows v) (hvl : v.length = n) (hvv : val v = V) :
    val qs = x / y ∧ val (us.take n) = (x % y) * p := by
  have hless := h.less
  have hval := h.sum
  rw [List.drop_zero] at hless
  rw [List.drop_zero, Nat.pow_zero, Nat.one_mul] at hval
  rw [← hX, ← hV] at hval
  obtain ⟨hq, hr⟩ := div_end hp hy hval (by rw [hV]; exact hless)
  have htk := low_take hn hv hvl (by rw [hvv]; exact hless)
  rw [hr] at htk
  exact ⟨hq, htk⟩
theorem DInv.step {la m V X : Nat} {us qs us' : List Nat} {i q : Nat} (h : DInv la m V X us qs (i + 1)) (hlu : lows us') (hl : us'.length = us.length) (hm : val (us'.drop i) = val (us.drop i) % V) (htk : us'.take i = us.take i) (hq : q = val (us.drop i) / V) (hqB : q < 4294967296) (hV : 0 < V) (hiu : i ≤ us.length) :
    DInv la m V X us' (qs.set i q) i := by
  have hiq : i < qs.length := by have := h.im; have := h.ql; omega
  refine ⟨by rw [hl]; exact h.ul, hlu, by rw [List.length_set]; exact h.ql, lows_set h.lq hqB i, by have := h.im; omega, ?_, ?_⟩
  · have hd : (qs.set i q).drop i = q :: qs.drop (i + 1) := by
      rw [List.drop_eq_getElem_cons (by rw [List.length_set]; exact hiq), List.getElem_set_self, List.drop_set_of_lt (Nat.lt_succ_self i)]
    have h1 := val_split us i hiu
    have h2 := val_split us' i (by omega)
    have h3 := h.sum
    rw [h1, Nat.pow_succ] at h3
    rw [hd, val, h2, htk, hm]
    exact digit_sum h3 (by rw [hq]; exact Nat.div_add_mod _ _)
  · rw [hm]; exact Nat.mod_lt _ hV
theorem K_div (x y : Nat) (hy0 : y ≠ 0) (hx : (digs x).length ≤ 549755813888) (hy : (digs y).length ≤ 549755813888) : Ctr PP 167 [natD x, natD y] (.tup [natD (x / y), natD (x % y)]) := by
  show Ctr PP _ [dgD (digs x), dgD (digs y)] _
  refine .of Go.Proofs.Tryz.func167 rfl (by kernel_rfl) rfl rfl rfl (fun A w0 => ?_)
  refine .reg (.asg rfl <| .asg rfl <| .nil) rfl (.sq (.block ?_))
  by_cases hlt : x < y
  · refine .reg (.mv rfl <| .mv rfl <| .call (K_cmp x y (by omega) (by omega)) ⟨rfl, rfl, trivial⟩ <| .cm rfl rfl (cltT (by rw [cmpn_lt hlt]; decide)) <| .asg rfl <| .nil) rfl ?_
    refine .cT rfl (.reg (.mv rfl <| .asg rfl <| .asg rfl <| .nil) rfl ?_)
    exact .early2 (fun _ _ h => h) rfl (.tmp rfl) (.tmp rfl) (.tup2 (by rw [Nat.div_eq_of_lt hlt]; exact nil_nat) (.of_eq (by rw [Nat.mod_eq_of_lt hlt]; rfl))) rfl
  have hyx : y ≤ x := Nat.le_of_not_lt hlt
  refine .reg (.mv rfl <| .mv rfl <| .call (K_cmp x y (by omega) (by omega)) ⟨rfl, rfl, trivial⟩ <| .cm rfl rfl (cltF (cmpn_nonneg hyx)) <| .asg rfl <| .nil) rfl ?_
  refine .cF rfl ?_
  by_cases h1 : (digs y).length = 1
  · obtain ⟨hyb, _, hyd⟩ := digs_one h1
    refine .reg (.mv rfl <| .ln rfl is_exact_nat <| .cm rfl rfl (ceqT (by omega)) <| .asg rfl <| .nil) rfl ?_
    refine .cT rfl (.reg (.mv rfl <| .mv rfl <| .ix1 rfl rfl se_exact_nat (by omega) (by omega) (u32s_get (i := 0) (d := y) (by rw [hyd]; rfl)) <| .lp1 rfl ly_uint32 <| .call (K_short x y hy0 hyb (by omega)) ⟨rfl, rfl, trivial⟩ <| .ext rfl rfl <| .ext rfl rfl <| .asg rfl <| .asg rfl <| .nil) rfl ?_)
    exact .early2 (fun _ _ h => h) rfl (.tmp rfl) (.tmp rfl) (.refl _) rfl
  refine .reg (.mv rfl <| .ln rfl is_exact_nat <| .cm rfl rfl (ceqF (by omega)) <| .asg rfl <| .nil) rfl ?_
  refine .cF rfl (.skip (Ok.on ?_))
  obtain ⟨p, hp⟩ : ∃ p, (digs y).length = p + 2 := ⟨(digs y).length - 2, by have := digs_len_pos hy0; omega⟩
  have htop : (digs y)[p + 1]? = some ((digs y).getD (p + 1) 0) := getD_some (by omega)
  have hdl := lows_get (lows_digs y) (p + 1)
  generalize (digs y).getD (p + 1) 0 = d at htop hdl
  have hb32 : blen d ≤ 32 := blen_small (n := 32) hdl
  obtain ⟨hbig, hvl⟩ := shifted (n := p + 1) hp htop hy0 hb32
  have hsub1 : iop .sub .i64 (((digs y).length : Nat) : Int) 1 = some ((p + 1 : Nat) : Int) := by rw [dec_i64 (by omega)]; congr 1; omega
  refine .reg (.mv rfl <| .mv rfl <| .ln rfl is_exact_nat <| .ar rfl rfl hsub1 <| .ix1 rfl rfl se_exact_nat (by omega) (by omega) (u32s_get (i := p + 1) (d := d) htop) <| .lp1 rfl ly_uint32 <| .call (K_LeadingZeros32 d hdl) ⟨rfl, trivial⟩ <| .asg rfl <| .nil) rfl ?_
  have hkl : 32 - blen d < 35184372088832 := by omega
  have hk32 : 32 - blen d ≤ 32 := by omega
  generalize 32 - blen d = k at hbig hvl hkl hk32
  have hpk : 2 ^ k ≤ 4294967296 := Nat.le_trans (Nat.pow_le_pow_right (by decide) hk32) (by decide)
  have hXlt : x * 2 ^ k < 4294967296 ^ ((digs x).length + 1) := by
    rw [Nat.pow_succ]
    exact Nat.mul_lt_mul_of_lt_of_le digs_lt hpk (by decide)
  have hAl : (digs (x * 2 ^ k)).length ≤ (digs x).length + 1 := digs_len_le hXlt
  have hXlt' := hXlt
  refine .reg (.mv rfl <| .mv rfl <| .call (K_shl y k (by omega) hkl) ⟨rfl, rfl, trivial⟩ <| .asg rfl <| .nil) rfl ?_
  refine .sub [(0, natD x), (1, natD y), (6, .int .i64 (k : Nat)), (7, dgD (digs (y * 2 ^ k)))] [] (allT rfl) (allH rfl) rfl rfl ?_
  have hvv := val_digs (y * 2 ^ k)
  have hvo := lows_digs (y * 2 ^ k)
  generalize digs (y * 2 ^ k) = v at hvl hvv hvo
  have hvl : v.length = p + 2 := hvl
  have hln : iop .sub .i64 (((digs x).length : Nat) : Int) ((p + 1 + 1 : Nat) : Int) = some ((((digs x).length - (p + 2) : Nat)) : Int) := sub_i64 (by have := digs_len_mono hyx; omega) (by omega)
  have hnx : p + 2 ≤ (digs x).length := by have := digs_len_mono hyx; omega
  refine .reg (.mv rfl <| .ln rfl is_exact_nat <| .asg rfl <| .nil) rfl ?_
  refine .sub [(0, dgD (digs x)), (6, .int .i64 (k : Nat)), (7, dgD v), (8, .int .i64 ((p + 2 : Nat)))] [] ⟨⟨_, rfl, .refl _⟩, ⟨_, rfl, .refl _⟩, ⟨_, rfl, .refl _⟩, ⟨_, rfl, .of_eq (by rw [hvl])⟩, trivial⟩ (allH rfl) rfl rfl ?_
  refine .reg (.mv rfl <| .ln rfl is_exact_nat <| .ar rfl rfl (add_i64 (d := 2) (by omega)) <| .mk1 rfl rfl mk_exact_nat rfl (by omega) (by omega) rfl <| .asg rfl <| .nil) rfl ?_
  have hKx : Ctr PP 166 [dgD (digs x), .int .i64 (k : Nat)] (dgD (digs (x * 2 ^ k))) := K_shl x k (by omega) hkl
  refine .reg (.mv rfl <| .mv rfl <| .mv rfl <| .call hKx ⟨rfl, rfl, trivial⟩ <| .cpO rfl rfl rfl mk_exact_nat (by simp; try omega) <| .nil) rfl ?_
  have hcopy := u32s_cut hAl
  have hpt := pad_take hAl
  have hpv := pad_val (digs (x * 2 ^ k)) ((digs x).length + 1 - (digs (x * 2 ^ k)).length)
  have hplo : lows (digs (x * 2 ^ k) ++ List.replicate ((digs x).length + 1 - (digs (x * 2 ^ k)).length) 0) := lows_append (lows_digs _) (lows_zeros _)
  rw [val_digs] at hpv
  have hpl : (digs (x * 2 ^ k) ++ List.replicate ((digs x).length + 1 - (digs (x * 2 ^ k)).length) 0).length = (digs x).length + 1 := by rw [List.length_append, List.length_replicate]; omega
  have hpl2 : (digs (x * 2 ^ k) ++ List.replicate ((digs x).length + 1 + 1 - (digs (x * 2 ^ k)).length) 0).length = (digs x).length + 2 := by rw [List.length_append, List.length_replicate]; omega
  refine .sub [(0, dgD (digs x)), (6, .int .i64 (k : Nat)), (7, dgD v), (8, .int .i64 ((p + 2 : Nat))), (9, .own 47)] [(47, .row 1 230 (u32s (digs (x * 2 ^ k) ++ List.replicate ((digs x).length + 1 + 1 - (digs (x * 2 ^ k)).length) 0)) (u32s_nm _))] (allT rfl) ⟨⟨_, rfl, .of_eq (row_eq hcopy)⟩, trivial⟩ rfl rfl ?_
  generalize digs (x * 2 ^ k) ++ List.replicate ((digs x).length + 1 - (digs (x * 2 ^ k)).length) 0 = us0 at hpt hpv hplo hpl
  generalize digs (x * 2 ^ k) ++ List.replicate ((digs x).length + 1 + 1 - (digs (x * 2 ^ k)).length) 0 = us1 at hpt hpl2
  refine .reg (.mv rfl <| .mv rfl <| .ln rfl is_exact_nat <| .ar rfl rfl (inc_i64 (by omega)) <| .slO (n := (digs x).length + 2) (m' := 1) rfl rfl rfl se_exact_nat (by rw [u32s_len, hpl2]; omega) rfl rfl (by omega) (by omega) (by omega) <| .asg rfl <| .nil) rfl ?_
  refine .recut 9 200 (n := (digs x).length + 1) (m' := 1) rfl rfl rfl (by rw [u32s_len, hpl2]; omega) rfl (by rw [u32s_len, hpl2]; omega) ?_
  refine .sub [(0, dgD (digs x)), (6, .int .i64 (k : Nat)), (7, dgD v), (8, .int .i64 ((p + 2 : Nat))), (9, .own 200)] [(200, .row 1 230 (u32s us0) (u32s_nm _))] (allT rfl) ⟨⟨_, rfl, .of_eq (row_eq (by rw [Nat.mul_one, u32s_take, hpt]))⟩, trivial⟩ rfl rfl ?_
  refine .reg (.mv rfl <| .ln rfl is_exact_nat <| .mv rfl <| .ar rfl rfl hln <| .ar rfl rfl (inc_i64 (by omega)) <| .mk1 rfl rfl mk_exact_nat rfl (by omega) (by omega) rfl <| .asg rfl <| .nil) rfl ?_
  refine .sq ?_
  refine .reg (.mv rfl <| .lnO (n := (digs x).length - (p + 2) + 1) (m' := 1) rfl rfl is_exact_nat (by simp) rfl rfl <| .ar rfl rfl (dec_i64 (by omega)) <| .asg rfl <| .nil) rfl ?_
  generalize hm : (digs x).length - (p + 2) + 1 = m
  generalize hX : x * 2 ^ k = X at hpv
  have hbig' := hbig
  generalize hV : y * 2 ^ k = V at hvv hbig'
  have hpk0 : 0 < 2 ^ k := Nat.two_pow_pos k
  have hVX : X < V * 4294967296 ^ m := by
    rw [← hX, ← hV]
    exact div_bound digs_lt (digs_le hy0) (by omega) hpk0
  have hini : val (us0.drop m) < V := div_ini hpv (by omega) hVX
  have hI0 : DInv (digs x).length m V X us0 (List.replicate m 0) m := .init hpl hplo hpv hini
  refine .block (.loop (ι := { s : List Nat × List Nat × Nat // DInv (digs x).length m V X s.1 s.2.1 s.2.2 })
    (fun s => [(6, .int .i64 (k : Nat)), (7, dgD v), (8, .int .i64 ((p + 2 : Nat))), (9, .own 200), (10, .own 63), (11, .int .i64 ((s.1.2.2 : Nat) - 1))]) (fun s => [(200, .row 1 230 (u32s s.1.1) (u32s_nm _)), (63, .row 1 230 (u32s s.1.2.1) (u32s_nm _))]) (fun s => s.1.2.2)
    ⟨(us0, List.replicate m 0, m), hI0⟩ (allT rfl) ⟨⟨_, rfl, .refl _⟩, ⟨_, rfl, .of_eq (row_eq (by simp [u32s]))⟩, trivial⟩ rfl rfl ?_)
  rintro ⟨⟨us, qs, i1⟩, hI⟩
  simp only at hI
  show Ok PP _ [(6, .int .i64 (k : Nat)), (7, dgD v), (8, .int .i64 ((p + 2 : Nat))), (9, .own 200), (10, .own 63), (11, .int .i64 ((i1 : Nat) - 1))] [(200, .row 1 230 (u32s us) (u32s_nm _)), (63, .row 1 230 (u32s qs) (u32s_nm _))] _ _
  have hul := hI.ul
  have hql := hI.ql
  refine .sq ?_
  cases i1 with
  | zero =>
    refine .reg (.mv rfl <| .cm rfl rfl (b := false) (by simp [icmp]) <| .nil) rfl ?_
    refine .cF rfl (.exit (Ok.on ?_))
    obtain ⟨hq, hr⟩ := hI.fin hX hV hpk0 (Nat.pos_of_ne_zero hy0) (n := p + 2) (by omega) hvo hvl hvv
    have hltk : lows (us.take (p + 2)) := lows_take hI.lu _
    have hlq := hI.lq
    refine .give (n := m) (m' := 1) 10 rfl rfl (by rw [u32s_len, hql]; omega) rfl rfl ?_
    refine .give (n := (digs x).length + 1) (m' := 1) 9 rfl rfl (by rw [u32s_len, hul]; omega) rfl rfl ?_
    refine .sub [(6, .int .i64 (k : Nat)), (8, .int .i64 ((p + 2 : Nat))), (9, dgD us), (10, dgD qs)] [] ⟨⟨_, rfl, .refl _⟩, ⟨_, rfl, .refl _⟩, ⟨_, rfl, .of_eq (dg_eq hul.symm rfl)⟩, ⟨_, rfl, .of_eq (dg_eq hql.symm rfl)⟩, trivial⟩ trivial rfl rfl ?_
    have hKn : Ctr PP 210 [dgD (us.take (p + 2))] (natD (x % y * 2 ^ k)) := by rw [← hr]; exact K_norm _ hltk (by rw [List.length_take]; omega)
    have hKq : Ctr PP 210 [dgD qs] (natD (x / y)) := by rw [← hq]; exact K_norm _ hlq (by omega)
    have hrl : (digs (x % y * 2 ^ k)).length ≤ 1099511627776 := by
      have h1 : x % y * 2 ^ k < 4294967296 ^ ((digs x).length + 1) := by
        refine Nat.lt_of_le_of_lt (Nat.mul_le_mul_right _ (Nat.mod_le x y)) hXlt'
      have := digs_len_le h1
      omega
    have hsl : ∀ h, D.slc ((p + 2 : Nat) : Int).toNat 1 ((u32s us).take (((p + 2 : Nat) : Int).toNat * 1)) h = dgD (us.take (p + 2)) := fun h => dg_eq (by rw [Int.toNat_natCast, List.length_take]; omega) (by rw [Int.toNat_natCast, Nat.mul_one, u32s_take])
    have hKs := K_shr (x % y * 2 ^ k) k hrl (by omega)
    rw [Nat.mul_div_cancel _ hpk0] at hKs
    refine .regD hmix (.mv rfl <| .call hKq ⟨rfl, trivial⟩ <| .mv rfl <| .mv rfl <| .slH rfl rfl se_exact_nat (by omega) (by omega) <| .call hKn ⟨congrArg some (hsl _), trivial⟩ <| .mv rfl <| .call hKs ⟨rfl, rfl, trivial⟩ <| .asg rfl <| .asg rfl <| .nil) rfl (by kernel_rfl) ?_
    exact .ret2 rfl (.tmp rfl) (.tmp rfl) (.refl _) rfl
  | succ i =>
    have hvl' : v.length = p + 2 := hvl
    have hin : i + (p + 2) < us.length := by have := hI.im; rw [hul]; omega
    have hW : Win us v i (p + 2) := ⟨by omega, hvl, hvo, hI.lu, hin, by rw [hvv]; exact hbig', by rw [hvv]; exact hI.less⟩
    have hiq : i < qs.length := by have := hI.im; omega
    refine .reg (.mv rfl <| .cm rfl rfl (b := true) (by simp [icmp]; try omega) <| .nil) rfl ?_
    refine .cT rfl (.skip (Ok.on (.sq (.block ?_))))
    rw [show ((i + 1 : Nat) : Int) - 1 = i by omega]
    have g0 : us[i + p]? = some (us.getD (i + p) 0) := getD_some (by omega)
    have g1 : us[i + p + 1]? = some (us.getD (i + p + 1) 0) := getD_some (by omega)
    have g2 : us[i + (p + 2)]? = some (us.getD (i + p + 2) 0) := getD_some (by omega)
    have gv1 : v[p + 1]? = some (v.getD (p + 1) 0) := getD_some (by omega)
    have gv2 : v[p]? = some (v.getD p 0) := getD_some (by omega)
    have l0 := lows_get hI.lu (i + p)
    have l1 := lows_get hI.lu (i + p + 1)
    have l2 := lows_get hI.lu (i + p + 2)
    have lv1 := lows_get hvo (p + 1)
    have lv2 := lows_get hvo p
    have hv1p : 2147483648 ≤ v.getD (p + 1) 0 := hW.size.2
    have hwdec := @Win.dec us v i p
    have hwbrk := @Win.brk us v i p
    have hwst := @Win.stood us v i p
    have hwge := fun q h => Win.ge (q := q) hW h
    generalize hu0 : us.getD (i + p) 0 = u0 at *
    generalize hu1 : us.getD (i + p + 1) 0 = u1 at *
    generalize hu2 : us.getD (i + p + 2) 0 = u2 at *
    generalize hv1 : v.getD (p + 1) 0 = v1 at *
    generalize hv2 : v.getD p 0 = v2 at *
    have hrl : (u32s us).length = ((digs x).length + 1) * 1 := by rw [u32s_len, hul]; omega
    have s1 : iop .sub .i64 ((i + (p + 2) : Nat) : Int) 1 = some ((i + p + 1 : Nat) : Int) := by rw [dec_i64 (by omega)]; congr 1; omega
    have s2 : iop .sub .i64 ((i + (p + 2) : Nat) : Int) 2 = some ((i + p : Nat) : Int) := by rw [show (2 : Int) = ((2 : Nat) : Int) from rfl, sub_i64 (by omega) (by omega)]; congr 2
    have s3 : iop .sub .i64 ((p + 2 : Nat) : Int) 1 = some ((p + 1 : Nat) : Int) := by rw [dec_i64 (by omega)]; congr 1; omega
    have s4 : iop .sub .i64 ((p + 2 : Nat) : Int) 2 = some ((p : Nat) : Int) := by rw [show (2 : Int) = ((2 : Nat) : Int) from rfl, sub_i64 (by omega) (by omega)]; congr 2
    refine .regD hmix (.mv rfl <| .mv rfl <| .mv rfl <| .ar rfl rfl (add_i64 (n := i) (d := p + 2) (by omega)) <| .ixO (n := (digs x).length + 1) (m' := 1) rfl rfl rfl se_exact_nat hrl rfl rfl (by omega) (by omega) <| .lr1 rfl rfl ly_uint32 (d := .int .u32 u2) (by rw [Int.toNat_natCast, Nat.mul_one]; exact u32s_get g2) <| .cv rfl cv_uint32_uint64 (wrap_u64t (by omega)) <| .sh rfl rfl (shl32 (n := u2) l2) <|
      .mv rfl <| .mv rfl <| .mv rfl <| .ar rfl rfl (add_i64 (n := i) (d := p + 2) (by omega)) <| .ar rfl rfl s1 <| .ixO (n := (digs x).length + 1) (m' := 1) rfl rfl rfl se_exact_nat hrl rfl rfl (by omega) (by omega) <| .lr1 rfl rfl ly_uint32 (d := .int .u32 u1) (by rw [Int.toNat_natCast, Nat.mul_one]; exact u32s_get g1) <| .cv rfl cv_uint32_uint64 (wrap_u64t (by omega)) <| .ar rfl rfl (or_low l2 l1) <| .asg rfl <| .nil) rfl (by kernel_rfl) ?_
    have htwo : u2 * 4294967296 + u1 < 18446744073709551616 := by omega
    refine .regD hmix (.mv rfl <| .mv rfl <| .mv rfl <| .ar rfl rfl s3 <| .ix1 rfl rfl se_exact_nat (by omega) (by omega) (u32s_get (i := p + 1) (d := v1) gv1) <| .lp1 rfl ly_uint32 <| .cv rfl cv_uint32_uint64 (wrap_u64t (by omega)) <| .ar rfl rfl (iq_u64 (n := u2 * 4294967296 + u1) (d := v1) (by omega) htwo) <|
      .mv rfl <| .mv rfl <| .mv rfl <| .ar rfl rfl s3 <| .ix1 rfl rfl se_exact_nat (by omega) (by omega) (u32s_get (i := p + 1) (d := v1) gv1) <| .lp1 rfl ly_uint32 <| .cv rfl cv_uint32_uint64 (wrap_u64t (by omega)) <| .ar rfl rfl (ir_u64 (n := u2 * 4294967296 + u1) (d := v1) (by omega)) <| .asg rfl <| .asg rfl <| .nil) rfl (by kernel_rfl) ?_
    have hVpos : 0 < val v := by have := hW.less; omega
    have hge0 : val (us.drop i) / val v ≤ (u2 * 4294967296 + u1) / v1 := guess_init (hwge _ (Nat.div_mul_le_self _ _)) (by omega)
    have hst0 : (u2 * 4294967296 + u1) / v1 * v1 + (u2 * 4294967296 + u1) % v1 = u2 * 4294967296 + u1 := by rw [Nat.mul_comm]; exact Nat.div_add_mod _ _
    have hr0 : (u2 * 4294967296 + u1) % v1 < 4294967296 := Nat.lt_trans (Nat.mod_lt _ (by omega)) lv1
    generalize (u2 * 4294967296 + u1) / v1 = gu0 at hge0 hst0 ⊢
    generalize (u2 * 4294967296 + u1) % v1 = re0 at hr0 hst0 ⊢
    refine .cutE (ι := { g : Nat // Stood us v i p g }) (fun g => [(6, .int .i64 (k : Nat)), (7, dgD v), (8, .int .i64 ((p + 2 : Nat))), (9, .own 200), (10, .own 63), (11, .int .i64 (i : Nat)), (13, .int .u64 (g.1 : Nat))]) (fun _ => [(200, .row 1 230 (u32s us) (u32s_nm _)), (63, .row 1 230 (u32s qs) (u32s_nm _))]) ?_ ?_
    · refine .block (.loop (ι := { s : Nat × Nat // val (us.drop i) / val v ≤ s.1 ∧ s.1 * v1 + s.2 = u2 * 4294967296 + u1 ∧ s.2 < 4294967296 })
        (fun s => [(6, .int .i64 (k : Nat)), (7, dgD v), (8, .int .i64 ((p + 2 : Nat))), (9, .own 200), (10, .own 63), (11, .int .i64 (i : Nat)), (13, .int .u64 (s.1.1 : Nat)), (14, .int .u64 (s.1.2 : Nat))]) (fun _ => [(200, .row 1 230 (u32s us) (u32s_nm _)), (63, .row 1 230 (u32s qs) (u32s_nm _))]) (fun s => s.1.1)
        ⟨(gu0, re0), hge0, hst0, hr0⟩ (allT rfl) (allH rfl) rfl rfl ?_)
      rintro ⟨⟨g, re⟩, hge, hgr, hre⟩
      simp only at hge hgr hre
      show Ok PP _ [(6, .int .i64 (k : Nat)), (7, dgD v), (8, .int .i64 ((p + 2 : Nat))), (9, .own 200), (10, .own 63), (11, .int .i64 (i : Nat)), (13, .int .u64 (g : Nat)), (14, .int .u64 (re : Nat))] [(200, .row 1 230 (u32s us) (u32s_nm _)), (63, .row 1 230 (u32s qs) (u32s_nm _))] _ _
      have hgm : g ≤ g * v1 := Nat.le_mul_of_pos_right _ (by omega)
      have hg64 : g < 18446744073709551616 := by omega
      refine .cutE (ι := { _u : Unit // 4294967296 ≤ g ∨ re * 4294967296 + u0 < g * v2 }) (fun _ => [(6, .int .i64 (k : Nat)), (7, dgD v), (8, .int .i64 ((p + 2 : Nat))), (9, .own 200), (10, .own 63), (11, .int .i64 (i : Nat)), (13, .int .u64 (g : Nat)), (14, .int .u64 (re : Nat))]) (fun _ => [(200, .row 1 230 (u32s us) (u32s_nm _)), (63, .row 1 230 (u32s qs) (u32s_nm _))]) ?_ ?_
      · by_cases hgB : 4294967296 ≤ g
        · refine .regD hmix (.mv rfl <| .cm rfl rfl (cgeT (by omega)) <| .mv rfl <| .gNf rfl rfl rfl rfl <| .gNf rfl rfl rfl rfl <| .gNf rfl rfl rfl rfl <| .gNf rfl rfl rfl rfl <| .gNf rfl rfl rfl rfl <| .gNf rfl rfl rfl rfl <| .gNf rfl rfl rfl rfl <| .gNf rfl rfl rfl rfl <| .gNf rfl rfl rfl rfl <| .gNf rfl rfl rfl rfl <| .gNf rfl rfl rfl rfl <| .gNf rfl rfl rfl rfl <| .gNf rfl rfl rfl rfl <| .gNf rfl rfl rfl rfl <| .gNf rfl rfl rfl rfl <| .gNf rfl rfl rfl rfl <| .gNf rfl rfl rfl rfl <| .gNf rfl rfl rfl rfl <| .gNf rfl rfl rfl rfl <| .gNf rfl rfl rfl rfl <| .pkTb rfl rfl rfl <| .nil) rfl (by kernel_rfl) ?_
          exact .cT rfl (.skip fun _ _ hs => hs.to ⟨(), .inl hgB⟩ (allT rfl) (allH rfl) rfl rfl)
        · have hprod : g * v2 < 18446744073709551616 := by
            have : g * v2 ≤ 4294967295 * 4294967295 := Nat.mul_le_mul (by omega) (by omega)
            omega
          have hng : ¬ (false = true) := by decide
          by_cases ht : re * 4294967296 + u0 < g * v2
          · refine .regD hmix (.mv rfl <| .cm rfl rfl (cgeF (by omega)) <| .mv rfl <| .gYf rfl rfl rfl hng <| .mv rfl <| .gYf rfl rfl rfl hng <| .mv rfl <| .gYf rfl rfl rfl hng <| .mv rfl <| .gYf rfl rfl rfl hng <| .ar rfl rfl s4 <| .gYf rfl rfl rfl hng <| .ix1 rfl rfl se_exact_nat (by omega) (by omega) (u32s_get (i := p) (d := v2) gv2) <| .gYf rfl rfl rfl hng <| .lp1 rfl ly_uint32 <| .gYf rfl rfl rfl hng <| .cv rfl cv_uint32_uint64 (wrap_u64t (by omega)) <| .gYf rfl rfl rfl hng <| .ar rfl rfl (mul_u64 (n := g) (d := v2) hprod) <|
              .gYf rfl rfl rfl hng <| .mv rfl <| .gYf rfl rfl rfl hng <| .sh rfl rfl (shl32 (n := re) hre) <| .gYf rfl rfl rfl hng <| .mv rfl <| .gYf rfl rfl rfl hng <| .mv rfl <| .gYf rfl rfl rfl hng <| .mv rfl <| .gYf rfl rfl rfl hng <| .ar rfl rfl (add_i64 (n := i) (d := p + 2) (by omega)) <| .gYf rfl rfl rfl hng <| .ar rfl rfl s2 <| .gYf rfl rfl rfl hng <| .ixO (n := (digs x).length + 1) (m' := 1) rfl rfl rfl se_exact_nat hrl rfl rfl (by omega) (by omega) <| .gYf rfl rfl rfl hng <| .lr1 rfl rfl ly_uint32 (d := .int .u32 u0) (by rw [Int.toNat_natCast, Nat.mul_one]; exact u32s_get g0) <| .gYf rfl rfl rfl hng <| .cv rfl cv_uint32_uint64 (wrap_u64t (by omega)) <| .gYf rfl rfl rfl hng <| .ar rfl rfl (or_low hre l0) <| .gYf rfl rfl rfl hng <| .cm rfl rfl (cgtT (by omega)) <| .pkFb rfl hng rfl <| .nil) rfl (by kernel_rfl) ?_
            exact .cT rfl (.skip fun _ _ hs => hs.to ⟨(), .inr ht⟩ (allT rfl) (allH rfl) rfl rfl)
          · refine .regD hmix (.mv rfl <| .cm rfl rfl (cgeF (by omega)) <| .mv rfl <| .gYf rfl rfl rfl hng <| .mv rfl <| .gYf rfl rfl rfl hng <| .mv rfl <| .gYf rfl rfl rfl hng <| .mv rfl <| .gYf rfl rfl rfl hng <| .ar rfl rfl s4 <| .gYf rfl rfl rfl hng <| .ix1 rfl rfl se_exact_nat (by omega) (by omega) (u32s_get (i := p) (d := v2) gv2) <| .gYf rfl rfl rfl hng <| .lp1 rfl ly_uint32 <| .gYf rfl rfl rfl hng <| .cv rfl cv_uint32_uint64 (wrap_u64t (by omega)) <| .gYf rfl rfl rfl hng <| .ar rfl rfl (mul_u64 (n := g) (d := v2) hprod) <|
              .gYf rfl rfl rfl hng <| .mv rfl <| .gYf rfl rfl rfl hng <| .sh rfl rfl (shl32 (n := re) hre) <| .gYf rfl rfl rfl hng <| .mv rfl <| .gYf rfl rfl rfl hng <| .mv rfl <| .gYf rfl rfl rfl hng <| .mv rfl <| .gYf rfl rfl rfl hng <| .ar rfl rfl (add_i64 (n := i) (d := p + 2) (by omega)) <| .gYf rfl rfl rfl hng <| .ar rfl rfl s2 <| .gYf rfl rfl rfl hng <| .ixO (n := (digs x).length + 1) (m' := 1) rfl rfl rfl se_exact_nat hrl rfl rfl (by omega) (by omega) <| .gYf rfl rfl rfl hng <| .lr1 rfl rfl ly_uint32 (d := .int .u32 u0) (by rw [Int.toNat_natCast, Nat.mul_one]; exact u32s_get g0) <| .gYf rfl rfl rfl hng <| .cv rfl cv_uint32_uint64 (wrap_u64t (by omega)) <| .gYf rfl rfl rfl hng <| .ar rfl rfl (or_low hre l0) <| .gYf rfl rfl rfl hng <| .cm rfl rfl (cgtF (by omega)) <| .pkFb rfl hng rfl <| .nil) rfl (by kernel_rfl) ?_
            have hS : Stood us v i p g := hwst hW hge hgr (by omega) (by omega)
            exact .cF rfl (.exit fun _ _ hs => hs.to ⟨g, hS⟩ (allT rfl) (allH rfl) rfl rfl)
      · rintro ⟨_, ht⟩
        have hlt : val (us.drop i) / val v < g := hwdec hW hge hgr ht
        have hgpos : 0 < g := Nat.lt_of_le_of_lt (Nat.zero_le _) hlt
        have hge2 : val (us.drop i) / val v ≤ g - 1 := Nat.le_sub_one_of_lt hlt
        have hnx := guess_next hgr hgpos
        show Ok PP _ [(6, .int .i64 (k : Nat)), (7, dgD v), (8, .int .i64 ((p + 2 : Nat))), (9, .own 200), (10, .own 63), (11, .int .i64 (i : Nat)), (13, .int .u64 (g : Nat)), (14, .int .u64 (re : Nat))] [(200, .row 1 230 (u32s us) (u32s_nm _)), (63, .row 1 230 (u32s qs) (u32s_nm _))] _ _
        have s5 : iop .sub .u64 (g : Int) 1 = some ((g - 1 : Nat) : Int) := congrArg some (wrap_u64 (by omega) (by omega))
        refine .block ?_
        refine .reg (.mv rfl <| .ar rfl rfl s5 <| .asg rfl <| .nil) rfl ?_
        refine .reg (.mv rfl <| .mv rfl <| .mv rfl <| .ar rfl rfl s3 <| .ix1 rfl rfl se_exact_nat (by omega) (by omega) (u32s_get (i := p + 1) (d := v1) gv1) <| .lp1 rfl ly_uint32 <| .cv rfl cv_uint32_uint64 (wrap_u64t (by omega)) <| .ar rfl rfl (add_u64 (n := re) (d := v1) (by omega)) <| .asg rfl <| .nil) rfl ?_
        by_cases hbk : 4294967296 ≤ re + v1
        · refine .reg (.mv rfl <| .cm rfl rfl (cgeT (by omega)) <| .nil) rfl ?_
          have hS : Stood us v i p (g - 1) := hwbrk hW hge2 hnx hbk
          exact .cT rfl (.exit fun _ _ hs => hs.to ⟨g - 1, hS⟩ (allT rfl) (allH rfl) rfl rfl)
        · refine .reg (.mv rfl <| .cm rfl rfl (cgeF (by omega)) <| .nil) rfl ?_
          exact .cF rfl (.skip fun _ _ hs => hs.round (m := g) ⟨(g - 1, re + v1), hge2, hnx, by omega⟩ (by simp only; omega) (allT rfl) (allH rfl) rfl rfl)
    · rintro ⟨g, hst⟩
      show Ok PP _ [(6, .int .i64 (k : Nat)), (7, dgD v), (8, .int .i64 ((p + 2 : Nat))), (9, .own 200), (10, .own 63), (11, .int .i64 (i : Nat)), (13, .int .u64 (g : Nat))] [(200, .row 1 230 (u32s us) (u32s_nm _)), (63, .row 1 230 (u32s qs) (u32s_nm _))] _ _
      have hgl : g < 4294967296 := hst.lt
      have hilv : i + v.length < us.length := by rw [hvl']; exact hin
      have humax : us.length ≤ 2199023255552 := by rw [hul]; omega
      have hKt := K_take us v g i hI.lu hvo hgl hilv humax
      have htl := taken_len us v g i
      have htk := taken_take (us := us) (v := v) (t := g) (i := i) (by omega)
      have hto := taken_lows (v := v) (t := g) (i := i) hI.lu
      refine .cutE (ι := { s : List Nat × Nat // s.2 = val (us.drop i) / V ∧ lows s.1 ∧ s.1.length = us.length ∧ val (s.1.drop i) = val (us.drop i) % V ∧ s.1.take i = us.take i }) (fun s => [(6, .int .i64 (k : Nat)), (7, dgD v), (8, .int .i64 ((p + 2 : Nat))), (9, .own 200), (10, .own 63), (11, .int .i64 (i : Nat)), (13, .int .u64 (s.1.2 : Nat))]) (fun s => [(200, .row 1 230 (u32s s.1.1) (u32s_nm _)), (63, .row 1 230 (u32s qs) (u32s_nm _))]) ?_ ?_
      · rcases Win.step hW hst with ⟨b0, hq, hmod⟩ | ⟨b1, hq, hmod⟩
        · rw [show (takeB g v 0 0 (us.drop i) != 0) = false from by rw [b0]; rfl] at hKt
          rw [hvv] at hq hmod
          refine .reg (.mv rfl <| .mv rfl <| .mv rfl <| .mv rfl <| .callM (hl := u32s_nm us) (hl' := u32s_nm (taken us v g i)) hKt rfl ⟨rfl, rfl, rfl, trivial⟩ rfl <| .nil) rfl ?_
          exact .cF rfl (.skip fun _ _ hs => hs.to ⟨(taken us v g i, g), hq, hto, htl, hmod, htk⟩ (allT rfl) (allH rfl) rfl rfl)
        · rw [show (takeB g v 0 0 (us.drop i) != 0) = true from by rw [b1]; rfl] at hKt
          rw [hvv] at hq hmod
          have hgpos : 0 < g := by rw [hq]; exact Nat.succ_pos _
          have s5 : iop .sub .u64 (g : Int) 1 = some ((g - 1 : Nat) : Int) := congrArg some (wrap_u64 (by omega) (by omega))
          have hKg := K_give (taken us v g i) v i hto hvo (by rw [htl]; exact hilv) (by rw [htl]; exact humax)
          have hgk := given_len (taken us v g i) v i
          have hgt := given_take (us := taken us v g i) (v := v) (i := i) (by omega)
          have hgo := given_lows (v := v) (i := i) hto
          refine .reg (.mv rfl <| .mv rfl <| .mv rfl <| .mv rfl <| .callM (hl := u32s_nm us) (hl' := u32s_nm (taken us v g i)) hKt rfl ⟨rfl, rfl, rfl, trivial⟩ rfl <| .nil) rfl ?_
          refine .cT rfl ?_
          refine .reg (.mv rfl <| .ar rfl rfl s5 <| .asg rfl <| .nil) rfl ?_
          refine .region (.mv rfl <| .mv rfl <| .mv rfl <| .callM (hl := u32s_nm (taken us v g i)) (hl' := u32s_nm (given (taken us v g i) v i)) hKg rfl ⟨rfl, rfl, trivial⟩ rfl <| .nil) rfl fun _ _ hs => ?_
          exact hs.to ⟨(given (taken us v g i) v i, g - 1), by simp only; rw [hq]; rfl, hgo, by simp only; rw [hgk, htl], hmod, by simp only; rw [hgt, htk]⟩ (allT rfl) (allH rfl) rfl rfl
      · rintro ⟨⟨us', q⟩, hq, hlu', hlen', hmod, htk'⟩
        simp only at hq hlu' hlen' hmod htk'
        show Ok PP _ [(6, .int .i64 (k : Nat)), (7, dgD v), (8, .int .i64 ((p + 2 : Nat))), (9, .own 200), (10, .own 63), (11, .int .i64 (i : Nat)), (13, .int .u64 (q : Nat))] [(200, .row 1 230 (u32s us') (u32s_nm _)), (63, .row 1 230 (u32s qs) (u32s_nm _))] _ _
        have hqB : q < 4294967296 := by rw [hq, ← hvv]; exact hW.qlt
        have hVp : 0 < V := by rw [← hvv]; exact Nat.lt_of_le_of_lt (Nat.zero_le _) hW.less
        have hD := hI.step hlu' hlen' hmod htk' hq hqB hVp (by omega)
        have hqrl : (u32s qs).length = m * 1 := by rw [u32s_len, hql]; omega
        have him : i < m := by rw [← hql]; exact hiq
        have hmx : m < 9223372036854775808 := by omega
        have hix : i < 9223372036854775808 := by omega
        refine .region (.mv rfl <| .mv rfl <| .mv rfl <| .cv rfl cv_uint64_uint32 (wrap_u32s hqB) <| .ixO (n := m) (m' := 1) rfl rfl rfl se_exact_nat hqrl rfl rfl (by omega) (by omega) <| .sr1 rfl rfl rfl ly_uint32 rfl rfl (by rw [hqrl]; omega) <| .nil) rfl fun _ _ hs => ?_
        refine Ok.on ?_ _ _ hs
        refine .region (.mv rfl <| .ar rfl rfl (dec_i64 hix) <| .asg rfl <| .nil) rfl fun _ _ hs => ?_
        exact hs.round (m := i + 1) ⟨(us', qs.set i q, i), hD⟩ (by simp) (allT rfl) ⟨⟨_, rfl, .refl _⟩, ⟨_, rfl, .of_eq (row_eq (u32s_upd ..))⟩, trivial⟩ rfl rfl
end Go.Am
namespace Go.Am
open Go.RowKit
def sm (x : Nat) : Prop := blen x ≤ 4398046511104
instance (x : Nat) : Decidable (sm x) := inferInstanceAs (Decidable (blen x ≤ 4398046511104))
theorem digs_len_blen (x : Nat) : (digs x).length ≤ blen x / 32 + 1 := by
  refine digs_len_le ?_
  have h1 := blen_lt x
  have h2 : (2 : Nat) ^ blen x ≤ 2 ^ (32 * (blen x / 32 + 1)) := Nat.pow_le_pow_right (by omega) (by omega)
  rw [Nat.pow_mul] at h2
  exact Nat.lt_of_lt_of_le h1 h2
theorem sm_digs {x : Nat} (h : sm x) : (digs x).length ≤ 549755813888 := by
  have := digs_len_blen x
  unfold sm at h
  omega
theorem sm_digs' {x : Nat} (h : sm x) : (digs x).length ≤ 1099511627776 := by have := sm_digs h; omega
def n_of (n : Int) : Option Nat := must (0 ≤ n ∧ n < 18446744073709551616) (some n.toNat)
theorem N_of {a : Int} {r : Nat} (h : n_of a = some r) : CtrG PP 145 [] [D.int .u64 a] [] (natD r) := by
  obtain ⟨⟨h0, h1⟩, h⟩ := must_some h
  injection h with h; subst h
  have := K_natOf a.toNat (by omega)
  rw [Int.toNat_of_nonneg h0] at this
  exact this.gen
def n_add (a b : Nat) : Option Nat := must (sm a ∧ sm b) (some (a + b))
theorem N_add {a b r : Nat} (h : n_add a b = some r) : CtrG PP 212 [] [natD a, natD b] [] (natD r) := by
  obtain ⟨⟨h0, h1⟩, h⟩ := must_some h
  injection h with h; subst h
  exact (K_add a b (sm_digs' h0) (sm_digs' h1)).gen
def n_sub (a b : Nat) : Option Nat := must (b ≤ a ∧ sm a) (some (a - b))
theorem N_sub {a b r : Nat} (h : n_sub a b = some r) : CtrG PP 215 [] [natD a, natD b] [] (natD r) := by
  obtain ⟨⟨h0, h1⟩, h⟩ := must_some h
  injection h with h; subst h
  exact (K_sub a b h0 (sm_digs' h1)).gen
def n_mul (a b : Nat) : Option Nat := must (sm a ∧ sm b) (some (a * b))
theorem N_mul {a b r : Nat} (h : n_mul a b = some r) : CtrG PP 150 [] [natD a, natD b] [] (natD r) := by
  obtain ⟨⟨h0, h1⟩, h⟩ := must_some h
  injection h with h; subst h
  exact (K_mul a b (sm_digs' h0) (sm_digs' h1)).gen
def n_cmp (a b : Nat) : Option Int := must (sm a ∧ sm b) (some (cmpn a b))
theorem N_cmp {a b : Nat} {r : Int} (h : n_cmp a b = some r) : CtrG PP 224 [] [natD a, natD b] [] (D.int .i64 r) := by
  obtain ⟨⟨h0, h1⟩, h⟩ := must_some h
  injection h with h; subst h
  exact (K_cmp a b (sm_digs' h0) (sm_digs' h1)).gen
def n_bits (a : Nat) : Option Int := must (sm a) (some (blen a : Int))
theorem N_bits {a : Nat} {r : Int} (h : n_bits a = some r) : CtrG PP 186 [] [natD a] [] (D.int .i64 r) := by
  obtain ⟨h0, h⟩ := must_some h
  injection h with h; subst h
  exact (K_bits a (sm_digs' h0)).gen
def n_small (a : Nat) : Option Int := must ((digs a).length ≤ 2) (some (a : Int))
theorem N_small {a : Nat} {r : Int} (h : n_small a = some r) : CtrG PP 185 [] [natD a] [] (D.int .u64 r) := by
  obtain ⟨h0, h⟩ := must_some h
  injection h with h; subst h
  exact (K_small a h0).gen
def n_shl (a : Nat) (k : Int) : Option Nat := must (sm a ∧ 0 ≤ k ∧ k < 35184372088832) (some (a * 2 ^ k.toNat))
theorem N_shl {a : Nat} {k : Int} {r : Nat} (h : n_shl a k = some r) : CtrG PP 166 [] [natD a, D.int .i64 k] [] (natD r) := by
  obtain ⟨⟨h0, h1, h2⟩, h⟩ := must_some h
  injection h with h; subst h
  have := K_shl a k.toNat (sm_digs' h0) (by omega)
  rw [Int.toNat_of_nonneg h1] at this
  exact this.gen
def n_div (a b : Nat) : Option (Nat × Nat) := must (b ≠ 0 ∧ sm a ∧ sm b) (some (a / b, a % b))
theorem N_div {a b q r : Nat} (h : n_div a b = some (q, r)) : CtrG PP 167 [] [natD a, natD b] [] (D.tup [natD q, natD r]) := by
  obtain ⟨⟨h0, h1, h2⟩, h⟩ := must_some h
  cases h
  have e1 : (digs a).length ≤ 549755813888 := by have := digs_len_blen a; unfold sm at h1; omega
  have e2 : (digs b).length ≤ 549755813888 := by have := digs_len_blen b; unfold sm at h2; omega
  exact (K_div a b h0 e1 e2).gen
def n_short (a : Nat) (d : Int) : Option (Nat × Nat) := must (sm a ∧ 0 < d ∧ d < 4294967296) (some (a / d.toNat, a % d.toNat))
theorem N_short {a q r : Nat} {d : Int} (h : n_short a d = some (q, r)) : CtrG PP 225 [] [natD a, D.int .u32 d] [] (D.tup [natD q, natD r]) := by
  obtain ⟨⟨h0, h1, h2⟩, h⟩ := must_some h
  cases h
  have := K_short a d.toNat (by omega) (by omega) (sm_digs' h0)
  rw [Int.toNat_of_nonneg (by omega)] at this
  exact this.gen
def n_shr (a : Nat) (k : Int) : Option Nat := must (sm a ∧ 0 ≤ k ∧ k < 35184372088832) (some (a / 2 ^ k.toNat))
theorem N_shr {a : Nat} {k : Int} {r : Nat} (h : n_shr a k = some r) : CtrG PP 229 [] [natD a, D.int .i64 k] [] (natD r) := by
  obtain ⟨⟨h0, h1, h2⟩, h⟩ := must_some h
  injection h with h; subst h
  have := K_shr a k.toNat (sm_digs' h0) (by omega)
  rw [Int.toNat_of_nonneg h1] at this
  exact this.gen
instance (l : List UInt8) : Decidable (decs l) := inferInstanceAs (Decidable (∀ b ∈ l, _))
def n_text (s : List UInt8) : Option Nat := must (s.length ≤ 1000000 ∧ decs s) (some (decv s))
theorem N_text {s : List UInt8} {r : Nat} (h : n_text s = some r) : CtrG PP 148 [] [strD s] [] (natD r) := by
  obtain ⟨⟨h0, h1⟩, h⟩ := must_some h
  injection h with h; subst h
  exact (K_natText ⟨s.toArray⟩ h0 h1).gen
theorem iquo {k : IntKind} {n m : Int} (h : m ≠ 0) : iop .quo k n m = some (k.wrap (n.tdiv m)) := if_neg h
theorem irem {k : IntKind} {n m : Int} (h : m ≠ 0) : iop .rem k n m = some (n.tmod m) := if_neg h
section
variable {P : Program} {os : List Oper} {c : Ctx} {T T' : List (Nat × D)} {H H' : List (Nat × Hp)} {sps : List Spec}
variable {ops : Array Oper} {dst : Option Nat} {ty : TypeId} {pos : String} {aft : Array Edge}
theorem Runs.lnD {t : TypeId} {x : Operand} {a : Nat} (hx : ev T x = some (natD a)) (ht : isSlice P t = true) (hr : Runs P ops c os (tput T dst (.int .i64 (digs a).length)) H sps T' H') :
    Runs P ops c (⟨dst, .call { callee := .builtin .len, args := #[x], argTypes := #[t] }, ty, pos, aft, none⟩ :: os) T H (ps [(x, natD a)] (.int .i64 (digs a).length) :: sps) T' H' := .ln (hl := u32s_nm _) hx ht hr
theorem Runs.ixD {t : TypeId} {x y : Operand} {a d : Nat} {k : IntKind} {z : Int} (hx : ev T x = some (natD a)) (hy : ev T y = some (.int k z)) (ht : sle P t = some 1) (h : ix (digs a) z = some d)
    (hr : Runs P ops c os (tput T dst (.ptr [.int .u32 d] rfl)) H sps T' H') :
    Runs P ops c (⟨dst, .indexAddr t x y, ty, pos, aft, none⟩ :: os) T H (ps [(x, natD a), (y, .int k z)] (.ptr [.int .u32 d] rfl) :: sps) T' H' :=
  .ix1 (hl := u32s_nm _) hx hy ht (ix_some h).1 (by have := ix_lt h; have := (ix_some h).1; omega) (u32s_get (ix_some h).2) hr
def evQ (T : List (Nat × D)) : List (Nat × Operand × D × List D) → Prop
  | [] => True
  | (_, x, d, _) :: q => ev T x = some d ∧ evQ T q
theorem evQ_all {T : List (Nat × D)} : ∀ {q : List (Nat × Operand × D × List D)}, evQ T q → ∀ x ∈ qs q, ev T x.1 = some x.2
  | [], _, x, hx => by cases hx
  | (o, y, d, m) :: q, h, x, hx => by
    simp only [qs, List.map_cons, List.mem_cons] at hx
    rcases hx with rfl | hx
    · exact h.1
    · exact evQ_all h.2 x hx
theorem Runs.bdQ {t : TypeId} {parts : List (Nat × Operand)} {z : List D} {pl : List (Nat × Nat)} (l : List D) (q : List (Nat × Operand × D × List D)) (hz : zer P t = some z) (hp : plc P t = some pl) (hq : partsOk pl z.length parts q) (he : evQ T q) (hle : LeL (over z q) l)
    (hr : Runs P ops c os (tput T dst (.agg l)) H sps T' H') :
    Runs P ops c (⟨dst, .build t parts.toArray, ty, pos, aft, none⟩ :: os) T H (ps (qs q) (.agg l) :: sps) T' H' := .bdL q hz hp hq (evQ_all he) hle hr
theorem Runs.blQ {α : Type} {e : Enc α} {t te : TypeId} {parts : List (Nat × Operand)} {m bt n : Nat} {z : List D} (xs : List α) (q : List (Nat × Operand × D × List D)) (hm : mkf P t = some (te, m, bt, z)) (hmn : m = e.n) (hs : Nat.ble (n * m) 16777216 = true) (hn0 : Nat.blt 0 n = true) (hq : partsOk (elp m 0 n) (n * m) parts q) (he : evQ T q)
    (hle : over (List.replicate n z).flatten q = flat e xs) (hln : xs.length = n)
    (hr : Runs P ops c os (tput T dst (slcE e xs)) H sps T' H') :
    Runs P ops c (⟨dst, .buildSlice t n parts.toArray, ty, pos, aft, none⟩ :: os) T H (ps (qs q) (slcE e xs) :: sps) T' H' := .blE xs q hm hmn hs hn0 hq (evQ_all he) hle hln hr
theorem Runs.blV {α : Type} {e : Enc α} {t te : TypeId} {r : Nat} {parts : List (Nat × Operand)} {m bt n : Nat} {z : List D} (xs : List α) (q : List (Nat × Operand × D × List D)) (hm : mkf P t = some (te, m, bt, z)) (hmn : m = e.n) (hs : Nat.ble (n * m) 16777216 = true) (hn0 : Nat.blt 0 n = true) (hq : partsOk (elp m 0 n) (n * m) parts q) (he : evQ T q)
    (hle : over (List.replicate n z).flatten q = flat e xs) (hln : xs.length = n) (hf : hget H r = none)
    (hr : Runs P ops c os ((r, .own r) :: T) ((r, rowE e te xs) :: H) sps T' H') :
    Runs P ops c (⟨some r, .buildSlice t n parts.toArray, ty, pos, aft, none⟩ :: os) T H (rws (qs q) r (rowE e te xs) :: sps) T' H' := .blW xs q hm hmn hs hn0 hq (evQ_all he) hle hln hf hr
end
end Go.Am
namespace Go.Am
open Go.RowKit
set_option maxRecDepth 100000
noncomputable section
def m_nat_gcd_l2 (v18 : Int) (v19 : Int) : Option (St (Int × Int) Int) := (if (v19 != 0) = true then must ((v19 : Int) ≠ 0) (some (St.next (v19, (Int.tmod v18 v19)))) else some (St.done v18))
def m_nat_gcd_l1 (v3 : Nat) (v4 : Nat) : Option (St (Nat × Nat) (Ex Nat Nat)) := (if (decide (((digs v4).length : Int) > 0)) = true then ((if (decide (((digs v3).length : Int) ≤ 2)) = true then (if (decide (((digs v4).length : Int) ≤ 2)) = true then (n_small v3).bind fun v14 => (n_small v4).bind fun v16 => (Loop (fun (s : Int × Int) => m_nat_gcd_l2 s.1 s.2) (v14, v16)).bind fun v26 => (n_of v26).bind fun v27 => some (Ex.ret v27) else some (Ex.brk ())) else some (Ex.brk ()))).bind fun o10 => (match o10 with | Ex.brk () => (n_div v3 v4).bind fun (v29, v30) => some (St.next (v4, v30)) | Ex.ret r32 => some (St.done (Ex.ret r32))) else some (St.done (Ex.brk v3)))
def m_nat_gcd (a1 : Nat) (a2 : Nat) : Option Nat := (Loop (fun (s : Nat × Nat) => m_nat_gcd_l1 s.1 s.2) (a1, a2)).bind fun o5 => (match o5 with | Ex.brk v33 => some v33 | Ex.ret r34 => some r34)
theorem C_nat_gcd {a1 : Nat} {a2 : Nat} {r35 : Nat} (h : m_nat_gcd a1 a2 = some r35) : CtrG PP 214 [] [natD a1, natD a2] [] (natD r35) := by
  unfold m_nat_gcd at h
  refine .of Go.Proofs.Tryz.func214 rfl (by kernel_rfl) rfl rfl rfl rfl rfl rfl (fun A w0 L b => ?_)
  show Ok PP _ [(0, natD a1), (1, natD a2)] [] _ _
  refine .reg (.asg rfl <| .nil) rfl ?_
  obtain ⟨o5, hl6, h⟩ := bind_some h
  refine .cutX (fun i => o5 = Ex.brk i) (fun (i : Nat) => [(0, natD i)]) (fun (i : Nat) => []) ?_ ?_
  · have ho1 := h
    clear h
    refine .block (.loopL (fun (s : Nat × Nat) => [(0, natD s.1), (1, natD s.2)]) (fun (s : Nat × Nat) => []) hl6 ⟨⟨_, rfl, .refl _⟩, ⟨_, rfl, .refl _⟩, trivial⟩ trivial rfl rfl ?_)
    rintro ⟨v3, v4⟩ st7 hb8
    have h : m_nat_gcd_l1 v3 v4 = some st7 := hb8
    clear hb8
    unfold m_nat_gcd_l1 at h
    show Ok PP _ [(0, natD v3), (1, natD v4)] [] _ _
    refine .sq ?_
    refine .reg (.mv rfl <| .lnD rfl is_exact_nat <| .cm rfl rfl rfl <| .nil) rfl ?_
    by_cases c9 : (decide (((digs v4).length : Int) > 0)) = true
    · replace h := ite_pos_some c9 h
      refine .cTb rfl c9 ?_
      refine .skip (Ok.on ?_)
      refine .block ?_
      obtain ⟨o10, hp11, h⟩ := bind_some h
      refine .cutX (fun i => o10 = Ex.brk i) (fun (i : Unit) => [(0, natD v3), (1, natD v4)]) (fun (i : Unit) => []) ?_ ?_
      · have ho2 := h
        clear h
        have h := hp11
        clear hp11
        by_cases c12 : (decide (((digs v3).length : Int) ≤ 2)) = true
        · replace h := ite_pos_some c12 h
          refine .reg (.mv rfl <| .lnD rfl is_exact_nat <| .cm rfl rfl rfl <| .mv rfl <| .gYt rfl rfl rfl c12 <| .mv rfl <| .gYt rfl rfl rfl c12 <| .lnD rfl is_exact_nat <| .gYt rfl rfl rfl c12 <| .cm rfl rfl rfl <| .pkTb rfl c12 rfl <| .nil) rfl ?_
          by_cases c13 : (decide (((digs v4).length : Int) ≤ 2)) = true
          · replace h := ite_pos_some c13 h
            refine .cTb rfl c13 ?_
            obtain ⟨v14, e15, h⟩ := bind_some h
            obtain ⟨v16, e17, h⟩ := bind_some h
            refine .reg (.mv rfl <| .callG (N_small e15) ⟨rfl, trivial⟩ trivial trivial <| .mv rfl <| .callG (N_small e17) ⟨rfl, trivial⟩ trivial trivial <| .asg rfl <| .asg rfl <| .nil) rfl ?_
            obtain ⟨v26, hl21, h⟩ := bind_some h
            refine .cutX (fun i => v26 = i) (fun (i : Int) => [(5, D.int .u64 i)]) (fun (i : Int) => []) ?_ ?_
            · have ho3 := h
              clear h
              refine .block (.loopL (fun (s : Int × Int) => [(5, D.int .u64 s.1), (6, D.int .u64 s.2)]) (fun (s : Int × Int) => []) hl21 ⟨⟨_, rfl, .refl _⟩, ⟨_, rfl, .refl _⟩, trivial⟩ trivial rfl rfl ?_)
              rintro ⟨v18, v19⟩ st22 hb23
              have h : m_nat_gcd_l2 v18 v19 = some st22 := hb23
              clear hb23
              unfold m_nat_gcd_l2 at h
              show Ok PP _ [(5, D.int .u64 v18), (6, D.int .u64 v19)] [] _ _
              refine .sq ?_
              refine .reg (.mv rfl <| .cm rfl rfl rfl <| .nil) rfl ?_
              by_cases c24 : (v19 != 0) = true
              · replace h := ite_pos_some c24 h
                refine .cTb rfl c24 ?_
                refine .skip (Ok.on ?_)
                refine .block ?_
                obtain ⟨k25, h⟩ := must_some h
                refine .regionD hmix (.mv rfl <| .mv rfl <| .mv rfl <| .ar rfl rfl (irem k25) <| .asg rfl <| .asg rfl <| .nil) rfl (by kernel_rfl) (fun _ _ hs => ⟨(v19, (Int.tmod v18 v19)), (Option.some.inj h).symm, hs.sub ⟨⟨_, rfl, .refl _⟩, ⟨_, rfl, .refl _⟩, trivial⟩ trivial rfl rfl⟩)
              · replace h := ite_neg_some c24 h
                refine .cFb rfl c24 ?_
                refine .exit (fun _ _ hs => ⟨_, (Option.some.inj h).symm, fun e => ⟨v18, e.symm, hs.sub ⟨⟨_, rfl, .refl _⟩, trivial⟩ trivial rfl rfl⟩⟩)
            · rintro _ rfl
              show Ok PP _ [(5, D.int .u64 v26)] [] _ _
              obtain ⟨v27, e28, h⟩ := bind_some h
              refine .reg (.mv rfl <| .callG (N_of e28) ⟨rfl, trivial⟩ trivial trivial <| .asg rfl <| .nil) rfl ?_
              cases h
              have h := ho2
              clear ho2
              refine .retG (Hi := []) (Ho := []) (b := b) (fn := Go.Proofs.Tryz.f214) (d := natD v27) (fun _ _ hb => by exact ⟨_, (Option.some.inj h).symm, fun e => by subst e; have h := ho1; cases h; exact hb⟩) rfl (.cons (.tmp rfl) .nil) (.refl _) trivial trivial
          · replace h := ite_neg_some c13 h
            refine .cFb rfl c13 ?_
            refine .skip (fun _ _ hs => ⟨(), (Option.some.inj h).symm, hs.sub ⟨⟨_, rfl, .refl _⟩, ⟨_, rfl, .refl _⟩, trivial⟩ trivial rfl rfl⟩)
        · replace h := ite_neg_some c12 h
          refine .reg (.mv rfl <| .lnD rfl is_exact_nat <| .cm rfl rfl rfl <| .mv rfl <| .gNt rfl rfl rfl c12 <| .gNt rfl rfl rfl c12 <| .gNt rfl rfl rfl c12 <| .pkFb rfl c12 rfl <| .nil) rfl ?_
          refine .cFb rfl (by decide) ?_
          refine .skip (fun _ _ hs => ⟨(), (Option.some.inj h).symm, hs.sub ⟨⟨_, rfl, .refl _⟩, ⟨_, rfl, .refl _⟩, trivial⟩ trivial rfl rfl⟩)
      · rintro ⟨⟩ rfl
        show Ok PP _ [(0, natD v3), (1, natD v4)] [] _ _
        obtain ⟨⟨v29, v30⟩, e31, h⟩ := bind_some h
        refine .reg (.mv rfl <| .mv rfl <| .callG (N_div e31) ⟨rfl, rfl, trivial⟩ trivial trivial <| .mv rfl <| .ext rfl rfl <| .ext rfl rfl <| .asg rfl <| .asg rfl <| .nil) rfl ?_
        refine .region (.mv rfl <| .mv rfl <| .asg rfl <| .asg rfl <| .nil) rfl (fun _ _ hs => ⟨(v4, v30), (Option.some.inj h).symm, hs.sub ⟨⟨_, rfl, .refl _⟩, ⟨_, rfl, .refl _⟩, trivial⟩ trivial rfl rfl⟩)
    · replace h := ite_neg_some c9 h
      refine .cFb rfl c9 ?_
      refine .exit (fun _ _ hs => ⟨_, (Option.some.inj h).symm, fun e => ⟨v3, e.symm, hs.sub ⟨⟨_, rfl, .refl _⟩, trivial⟩ trivial rfl rfl⟩⟩)
  · rintro v33 rfl
    show Ok PP _ [(0, natD v33)] [] _ _
    refine .reg (.mv rfl <| .asg rfl <| .nil) rfl ?_
    cases h
    refine .retG (fun _ _ hb => hb) rfl (.cons (.tmp rfl) .nil) (.refl _) trivial trivial
def m_nat_root_l1 (a1 : Nat) (v9 : Nat) : Option (St Nat Nat) := (n_div a1 v9).bind fun (v14, v15) => (n_add v9 v14).bind fun v17 => (n_shr v17 1).bind fun v19 => (n_cmp v19 v9).bind fun v21 => (if (decide (v21 ≥ 0)) = true then some (St.done v9) else some (St.next v19))
def m_nat_root (a1 : Nat) : Option Nat := (if (((digs a1).length : Int) == 0) = true then some 0 else (n_of 1).bind fun v3 => (n_bits a1).bind fun v5 => (n_shl v3 (IntKind.i64.wrap (Int.tdiv (IntKind.i64.wrap (v5 + 1)) 2))).bind fun v7 => (Loop (fun (s : Nat) => m_nat_root_l1 a1 s) v7).bind fun r24 => some r24)
theorem C_nat_root {a1 : Nat} {r25 : Nat} (h : m_nat_root a1 = some r25) : CtrG PP 170 [] [natD a1] [] (natD r25) := by
  unfold m_nat_root at h
  refine .of Go.Proofs.Tryz.func170 rfl (by kernel_rfl) rfl rfl rfl rfl rfl rfl (fun A w0 L b => ?_)
  show Ok PP _ [(0, natD a1)] [] _ _
  refine .reg (.asg rfl <| .nil) rfl ?_
  refine .sq ?_
  refine .reg (.mv rfl <| .lnD rfl is_exact_nat <| .cm rfl rfl rfl <| .nil) rfl ?_
  by_cases c2 : (((digs a1).length : Int) == 0) = true
  · replace h := ite_pos_some c2 h
    refine .cTb rfl c2 ?_
    refine .reg (.asg rfl <| .nil) rfl ?_
    cases h
    refine .retG (fun _ _ hb => hb) rfl (.cons (.tmp rfl) .nil) (nil_nat) trivial trivial
  · replace h := ite_neg_some c2 h
    refine .cFb rfl c2 ?_
    refine .skip (Ok.on ?_)
    obtain ⟨v3, e4, h⟩ := bind_some h
    obtain ⟨v5, e6, h⟩ := bind_some h
    obtain ⟨v7, e8, h⟩ := bind_some h
    refine .reg (.callG (N_of e4) ⟨rfl, trivial⟩ trivial trivial <| .mv rfl <| .callG (N_bits e6) ⟨rfl, trivial⟩ trivial trivial <| .ar rfl rfl rfl <| .ar rfl rfl (iquo (by decide)) <| .callG (N_shl e8) ⟨rfl, rfl, trivial⟩ trivial trivial <| .asg rfl <| .nil) rfl ?_
    obtain ⟨o10, hl11, h⟩ := bind_some h
    have ho1 := h
    clear h
    refine .block (.loopL (fun (s : Nat) => [(0, natD a1), (3, natD s)]) (fun (s : Nat) => []) hl11 ⟨⟨_, rfl, .refl _⟩, ⟨_, rfl, .refl _⟩, trivial⟩ trivial rfl rfl ?_)
    rintro v9 st12 hb13
    have h : m_nat_root_l1 a1 v9 = some st12 := hb13
    clear hb13
    unfold m_nat_root_l1 at h
    show Ok PP _ [(0, natD a1), (3, natD v9)] [] _ _
    refine .block ?_
    obtain ⟨⟨v14, v15⟩, e16, h⟩ := bind_some h
    refine .reg (.mv rfl <| .mv rfl <| .callG (N_div e16) ⟨rfl, rfl, trivial⟩ trivial trivial <| .mv rfl <| .ext rfl rfl <| .ext rfl rfl <| .asg rfl <| .asg rfl <| .nil) rfl ?_
    obtain ⟨v17, e18, h⟩ := bind_some h
    obtain ⟨v19, e20, h⟩ := bind_some h
    refine .reg (.mv rfl <| .mv rfl <| .callG (N_add e18) ⟨rfl, rfl, trivial⟩ trivial trivial <| .callG (N_shr e20) ⟨rfl, rfl, trivial⟩ trivial trivial <| .asg rfl <| .nil) rfl ?_
    refine .sq ?_
    obtain ⟨v21, e22, h⟩ := bind_some h
    refine .reg (.mv rfl <| .mv rfl <| .callG (N_cmp e22) ⟨rfl, rfl, trivial⟩ trivial trivial <| .cm rfl rfl rfl <| .nil) rfl ?_
    by_cases c23 : (decide (v21 ≥ 0)) = true
    · replace h := ite_pos_some c23 h
      refine .cTb rfl c23 ?_
      refine .reg (.mv rfl <| .asg rfl <| .nil) rfl ?_
      refine .retG (Hi := []) (Ho := []) (b := b) (fn := Go.Proofs.Tryz.f170) (d := natD v9) (fun _ _ hb => by exact ⟨_, (Option.some.inj h).symm, fun e => by subst e; have h := ho1; cases h; exact hb⟩) rfl (.cons (.tmp rfl) .nil) (.refl _) trivial trivial
    · replace h := ite_neg_some c23 h
      refine .cFb rfl c23 ?_
      refine .skip (Ok.on ?_)
      refine .region (.mv rfl <| .asg rfl <| .nil) rfl (fun _ _ hs => ⟨v19, (Option.some.inj h).symm, hs.sub ⟨⟨_, rfl, .refl _⟩, ⟨_, rfl, .refl _⟩, trivial⟩ trivial rfl rfl⟩)
def m_Reverse_bytes_l1 (v2 : Int) (v3 : Int) (v4 : List Int) : Option (St (Int × Int × (List Int)) (List Int)) := (if (decide (v2 < v3)) = true then (ix v4 v3).bind fun v10 => (ix v4 v2).bind fun v12 => (ix (v4.set v2.toNat v10) v3).bind fun v14 => some (St.next ((IntKind.i64.wrap (v2 + 1)), (IntKind.i64.wrap (v3 - 1)), ((v4.set v2.toNat v10).set v3.toNat v12))) else some (St.done v4))
def m_Reverse_bytes (a1 : List Int) : Option (List Int) := (Loop (fun (s : Int × Int × (List Int)) => m_Reverse_bytes_l1 s.1 s.2.1 s.2.2) (0, (IntKind.i64.wrap ((a1.length : Int) - 1)), a1)).bind fun v16 => some v16
theorem C_Reverse_bytes {a1 : List Int} {r17 : List Int} (h : m_Reverse_bytes a1 = some r17) : CtrG PP 230 [(0, rowE (Enc.int .u8) 5 a1)] [D.own 0] [(0, rowE (Enc.int .u8) 5 r17)] (D.tup []) := by
  unfold m_Reverse_bytes at h
  refine .of Go.Proofs.Tryz.func230 rfl (by kernel_rfl) rfl rfl rfl rfl rfl rfl (fun A w0 L b => ?_)
  show Ok PP _ [(0, D.own 0), (1000000, D.pinned 0 (b 0))] [(0, rowE (Enc.int .u8) 5 a1)] _ _
  refine .sl 0 rfl rfl rfl ?_
  refine .reg (.mv rfl <| .lnR rfl is_Luint8 <| .ar rfl rfl rfl <| .asg rfl <| .asg rfl <| .nil) rfl ?_
  obtain ⟨o5, hl6, h⟩ := bind_some h
  have ho1 := h
  clear h
  refine .block (.loopL (fun (s : Int × Int × (List Int)) => [(0, D.own 0), (2, D.int .i64 s.1), (3, D.int .i64 s.2.1), (1000000, D.pinned 0 (b 0))]) (fun (s : Int × Int × (List Int)) => [(0, rowE (Enc.int .u8) 5 s.2.2)]) hl6 ⟨⟨_, rfl, .sl⟩, ⟨_, rfl, .refl _⟩, ⟨_, rfl, .refl _⟩, ⟨_, rfl, .refl _⟩, trivial⟩ ⟨⟨_, rfl, .refl _⟩, trivial⟩ rfl rfl ?_)
  rintro ⟨v2, v3, v4⟩ st7 hb8
  have h : m_Reverse_bytes_l1 v2 v3 v4 = some st7 := hb8
  clear hb8
  unfold m_Reverse_bytes_l1 at h
  show Ok PP _ [(0, D.own 0), (2, D.int .i64 v2), (3, D.int .i64 v3), (1000000, D.pinned 0 (b 0))] [(0, rowE (Enc.int .u8) 5 v4)] _ _
  refine .sq ?_
  refine .reg (.mv rfl <| .mv rfl <| .cm rfl rfl rfl <| .nil) rfl ?_
  by_cases c9 : (decide (v2 < v3)) = true
  · replace h := ite_pos_some c9 h
    refine .cTb rfl c9 ?_
    refine .skip (Ok.on ?_)
    refine .sq ?_
    refine .block ?_
    refine .sl 0 rfl rfl rfl ?_
    obtain ⟨v10, e11, h⟩ := bind_some h
    obtain ⟨v12, e13, h⟩ := bind_some h
    obtain ⟨v14, e15, h⟩ := bind_some h
    refine .regionD hmix (.mv rfl <| .mv rfl <| .mv rfl <| .mv rfl <| .mv rfl <| .mv rfl <| .ixR rfl rfl se_Luint8 (ix_some e11).1 (by have := ix_lt e11; have := (ix_some e11).1; (try simp only [List.length_set] at *); omega) <| .lrE rfl rfl ly_uint8 rfl (ix_some e11).2 rfl <| .mv rfl <| .mv rfl <| .ixR rfl rfl se_Luint8 (ix_some e13).1 (by have := ix_lt e13; have := (ix_some e13).1; (try simp only [List.length_set] at *); omega) <| .lrE rfl rfl ly_uint8 rfl (ix_some e13).2 rfl <| .ixR rfl rfl se_Luint8 (ix_some e13).1 (by have := ix_lt e13; have := (ix_some e13).1; (try simp only [List.length_set] at *); omega) <| .srE1 v10 rfl rfl rfl ly_uint8 rfl rfl rfl rfl (ix_lt e13) <| .ixR rfl rfl se_Luint8 (ix_some e15).1 (by have := ix_lt e15; have := (ix_some e15).1; (try simp only [List.length_set] at *); omega) <| .srE1 v12 rfl rfl rfl ly_uint8 rfl rfl rfl rfl (ix_lt e15) <| .nil) rfl (by kernel_rfl) (Ok.on ?_)
    refine .region (.mv rfl <| .ar rfl rfl rfl <| .mv rfl <| .ar rfl rfl rfl <| .asg rfl <| .asg rfl <| .nil) rfl (fun _ _ hs => ⟨((IntKind.i64.wrap (v2 + 1)), (IntKind.i64.wrap (v3 - 1)), ((v4.set v2.toNat v10).set v3.toNat v12)), (Option.some.inj h).symm, hs.sub ⟨⟨_, rfl, .sl⟩, ⟨_, rfl, .refl _⟩, ⟨_, rfl, .refl _⟩, ⟨_, rfl, .refl _⟩, trivial⟩ ⟨⟨_, rfl, .refl _⟩, trivial⟩ rfl rfl⟩)
  · replace h := ite_neg_some c9 h
    refine .cFb rfl c9 ?_
    refine .exit (fun a w hs => ⟨_, (Option.some.inj h).symm, fun e => by subst e; have h := ho1; cases h; exact blk_exit (hs.endG rfl .nil (.refl _) ⟨⟨_, rfl, .refl _⟩, trivial⟩ ⟨⟨_, rfl, .refl _⟩, trivial⟩)⟩)
def m_nat_decimal_l2 (v10 : Nat) (v17 : Int) (v18 : Int) (v19 : List Int) : Option (St (Int × Int × (List Int)) (List Int)) := ((if (decide (v18 < 9)) = true then (if (decide (((digs v10).length : Int) > 0)) = true then some (Ex.brk ()) else (if (decide (v17 > 0)) = true then some (Ex.brk ()) else some (Ex.ret ()))) else some (Ex.ret ()))).bind fun o24 => (match o24 with | Ex.brk () => must ((v19.length + ([(IntKind.u8.wrap (IntKind.u64.wrap (48 + (Int.tmod v17 10))))]).length) * 1 ≤ 140737488355328 ∧ v19.length + ([(IntKind.u8.wrap (IntKind.u64.wrap (48 + (Int.tmod v17 10))))]).length ≤ 9223372036854775807) (some (St.next ((IntKind.u64.wrap (Int.tdiv v17 10)), (IntKind.i64.wrap (v18 + 1)), (v19 ++ [(IntKind.u8.wrap (IntKind.u64.wrap (48 + (Int.tmod v17 10))))])))) | Ex.ret () => some (St.done v19))
def m_nat_decimal_l1 (v3 : Nat) (v4 : List Int) : Option (St (Nat × (List Int)) (List Int)) := (if (decide (((digs v3).length : Int) > 0)) = true then (n_short v3 1000000000).bind fun (v10, v11) => (n_small v11).bind fun v13 => ((Loop (fun (s : Int × Int × (List Int)) => m_nat_decimal_l2 v10 s.1 s.2.1 s.2.2) (v13, 0, v4)).bind fun v30 => some (v30)).bind fun v31 => some (St.next (v10, v31)) else some (St.done v4))
def m_nat_decimal (a1 : Nat) : Option (List UInt8) := (if (((digs a1).length : Int) == 0) = true then some ([48] : List UInt8) else (Loop (fun (s : Nat × (List Int)) => m_nat_decimal_l1 s.1 s.2) (a1, [])).bind fun v32 => (m_Reverse_bytes v32).bind fun v33 => some (bytesOf v33))
theorem C_nat_decimal {a1 : Nat} {r35 : List UInt8} (h : m_nat_decimal a1 = some r35) : CtrG PP 176 [] [natD a1] [] (strD r35) := by
  unfold m_nat_decimal at h
  refine .of Go.Proofs.Tryz.func176 rfl (by kernel_rfl) rfl rfl rfl rfl rfl rfl (fun A w0 L b => ?_)
  show Ok PP _ [(0, natD a1)] [] _ _
  refine .reg (.asg rfl <| .nil) rfl ?_
  refine .sq ?_
  refine .reg (.mv rfl <| .lnD rfl is_exact_nat <| .cm rfl rfl rfl <| .nil) rfl ?_
  by_cases c2 : (((digs a1).length : Int) == 0) = true
  · replace h := ite_pos_some c2 h
    refine .cTb rfl c2 ?_
    refine .reg (.asg rfl <| .nil) rfl ?_
    cases h
    refine .retG (fun _ _ hb => hb) rfl (.cons (.tmp rfl) .nil) (.refl _) trivial trivial
  · replace h := ite_neg_some c2 h
    refine .cFb rfl c2 ?_
    refine .skip (Ok.on ?_)
    refine .reg (.asg rfl <| .nil) rfl ?_
    refine .nilE (Enc.int .u8) 3 2000003 5 rfl rfl ?_
    obtain ⟨v32, hl6, h⟩ := bind_some h
    refine .cutX (fun i => v32 = i) (fun (i : (List Int)) => [(3, D.own 2000003)]) (fun (i : (List Int)) => [(2000003, rowE (Enc.int .u8) 5 i)]) ?_ ?_
    · have ho1 := h
      clear h
      refine .block (.loopL (fun (s : Nat × (List Int)) => [(0, natD s.1), (3, D.own 2000003)]) (fun (s : Nat × (List Int)) => [(2000003, rowE (Enc.int .u8) 5 s.2)]) hl6 ⟨⟨_, rfl, .refl _⟩, ⟨_, rfl, .refl _⟩, trivial⟩ ⟨⟨_, rfl, .refl _⟩, trivial⟩ rfl rfl ?_)
      rintro ⟨v3, v4⟩ st7 hb8
      have h : m_nat_decimal_l1 v3 v4 = some st7 := hb8
      clear hb8
      unfold m_nat_decimal_l1 at h
      show Ok PP _ [(0, natD v3), (3, D.own 2000003)] [(2000003, rowE (Enc.int .u8) 5 v4)] _ _
      refine .sq ?_
      refine .reg (.mv rfl <| .lnD rfl is_exact_nat <| .cm rfl rfl rfl <| .nil) rfl ?_
      by_cases c9 : (decide (((digs v3).length : Int) > 0)) = true
      · replace h := ite_pos_some c9 h
        refine .cTb rfl c9 ?_
        refine .skip (Ok.on ?_)
        refine .block ?_
        obtain ⟨⟨v10, v11⟩, e12, h⟩ := bind_some h
        refine .reg (.mv rfl <| .callG (N_short e12) ⟨rfl, rfl, trivial⟩ trivial trivial <| .mv rfl <| .ext rfl rfl <| .ext rfl rfl <| .asg rfl <| .asg rfl <| .nil) rfl ?_
        obtain ⟨v13, e14, h⟩ := bind_some h
        refine .reg (.mv rfl <| .callG (N_small e14) ⟨rfl, trivial⟩ trivial trivial <| .asg rfl <| .nil) rfl ?_
        obtain ⟨v31, hp16, h⟩ := bind_some h
        refine .cutX (fun i => v31 = i) (fun (i : (List Int)) => [(3, D.own 2000003), (4, natD v10)]) (fun (i : (List Int)) => [(2000003, rowE (Enc.int .u8) 5 i)]) ?_ ?_
        · have ho2 := h
          clear h
          have h := hp16
          clear hp16
          refine .reg (.asg rfl <| .nil) rfl ?_
          obtain ⟨o20, hl21, h⟩ := bind_some h
          have ho3 := h
          clear h
          refine .block (.loopL (fun (s : Int × Int × (List Int)) => [(3, D.own 2000003), (4, natD v10), (6, D.int .u64 s.1), (7, D.int .i64 s.2.1)]) (fun (s : Int × Int × (List Int)) => [(2000003, rowE (Enc.int .u8) 5 s.2.2)]) hl21 ⟨⟨_, rfl, .refl _⟩, ⟨_, rfl, .refl _⟩, ⟨_, rfl, .refl _⟩, ⟨_, rfl, .refl _⟩, trivial⟩ ⟨⟨_, rfl, .refl _⟩, trivial⟩ rfl rfl ?_)
          rintro ⟨v17, v18, v19⟩ st22 hb23
          have h : m_nat_decimal_l2 v10 v17 v18 v19 = some st22 := hb23
          clear hb23
          unfold m_nat_decimal_l2 at h
          show Ok PP _ [(3, D.own 2000003), (4, natD v10), (6, D.int .u64 v17), (7, D.int .i64 v18)] [(2000003, rowE (Enc.int .u8) 5 v19)] _ _
          obtain ⟨o24, hp25, h⟩ := bind_some h
          refine .cutX (fun i => o24 = Ex.brk i) (fun (i : Unit) => [(3, D.own 2000003), (4, natD v10), (6, D.int .u64 v17), (7, D.int .i64 v18)]) (fun (i : Unit) => [(2000003, rowE (Enc.int .u8) 5 v19)]) ?_ ?_
          · have ho4 := h
            clear h
            have h := hp25
            clear hp25
            by_cases c26 : (decide (v18 < 9)) = true
            · replace h := ite_pos_some c26 h
              by_cases c27 : (decide (((digs v10).length : Int) > 0)) = true
              · replace h := ite_pos_some c27 h
                refine .reg (.mv rfl <| .cm rfl rfl rfl <| .mv rfl <| .gYt rfl rfl rfl c26 <| .mv rfl <| .gYt rfl rfl rfl c26 <| .lnD rfl is_exact_nat <| .gYt rfl rfl rfl c26 <| .cm rfl rfl rfl <| .gYt rfl rfl rfl c26 <| .mv rfl <| .gNf rfl rfl rfl c27 <| .gNf rfl rfl rfl c27 <| .gYt rfl rfl rfl c26 <| .pkTb rfl c27 rfl <| .pkTb rfl c26 rfl <| .nil) rfl ?_
                refine .cTb rfl rfl ?_
                refine .skip (fun _ _ hs => ⟨(), (Option.some.inj h).symm, hs.sub ⟨⟨_, rfl, .refl _⟩, ⟨_, rfl, .refl _⟩, ⟨_, rfl, .refl _⟩, ⟨_, rfl, .refl _⟩, trivial⟩ ⟨⟨_, rfl, .refl _⟩, trivial⟩ rfl rfl⟩)
              · replace h := ite_neg_some c27 h
                refine .reg (.mv rfl <| .cm rfl rfl rfl <| .mv rfl <| .gYt rfl rfl rfl c26 <| .mv rfl <| .gYt rfl rfl rfl c26 <| .lnD rfl is_exact_nat <| .gYt rfl rfl rfl c26 <| .cm rfl rfl rfl <| .gYt rfl rfl rfl c26 <| .mv rfl <| .gYf rfl rfl rfl c27 <| .mv rfl <| .gYf rfl rfl rfl c27 <| .cm rfl rfl rfl <| .gYt rfl rfl rfl c26 <| .pkFb rfl c27 rfl <| .pkTb rfl c26 rfl <| .nil) rfl ?_
                by_cases c28 : (decide (v17 > 0)) = true
                · replace h := ite_pos_some c28 h
                  refine .cTb rfl c28 ?_
                  refine .skip (fun _ _ hs => ⟨(), (Option.some.inj h).symm, hs.sub ⟨⟨_, rfl, .refl _⟩, ⟨_, rfl, .refl _⟩, ⟨_, rfl, .refl _⟩, ⟨_, rfl, .refl _⟩, trivial⟩ ⟨⟨_, rfl, .refl _⟩, trivial⟩ rfl rfl⟩)
                · replace h := ite_neg_some c28 h
                  refine .cFb rfl c28 ?_
                  cases h
                  have h := ho4
                  clear ho4
                  refine .exit (fun a w hs => ⟨_, (Option.some.inj h).symm, fun e => by subst e; have h := ho3; exact blk_exit (⟨v19, (Option.some.inj h).symm, hs.sub ⟨⟨_, rfl, .refl _⟩, ⟨_, rfl, .refl _⟩, trivial⟩ ⟨⟨_, rfl, .refl _⟩, trivial⟩ rfl rfl⟩)⟩)
            · replace h := ite_neg_some c26 h
              refine .reg (.mv rfl <| .cm rfl rfl rfl <| .mv rfl <| .gNt rfl rfl rfl c26 <| .gNt rfl rfl rfl c26 <| .gNt rfl rfl rfl c26 <| .gNt rfl rfl rfl c26 <| .gU rfl rfl <| .gU rfl rfl <| .gNt rfl rfl rfl c26 <| .pkFb rfl c26 rfl <| .nil) rfl ?_
              refine .cFb rfl (by decide) ?_
              cases h
              have h := ho4
              clear ho4
              refine .exit (fun a w hs => ⟨_, (Option.some.inj h).symm, fun e => by subst e; have h := ho3; exact blk_exit (⟨v19, (Option.some.inj h).symm, hs.sub ⟨⟨_, rfl, .refl _⟩, ⟨_, rfl, .refl _⟩, trivial⟩ ⟨⟨_, rfl, .refl _⟩, trivial⟩ rfl rfl⟩)⟩)
          · rintro ⟨⟩ rfl
            show Ok PP _ [(3, D.own 2000003), (4, natD v10), (6, D.int .u64 v17), (7, D.int .i64 v18)] [(2000003, rowE (Enc.int .u8) 5 v19)] _ _
            refine .sq ?_
            refine .block ?_
            refine .sl 3 rfl rfl rfl ?_
            obtain ⟨k29, h⟩ := must_some h
            refine .reg (.mv rfl <| .mv rfl <| .ar rfl rfl (irem (by decide)) <| .ar rfl rfl rfl <| .cv rfl cv_uint64_uint8 rfl <| .blQ (e := (Enc.int .u8)) [(IntKind.u8.wrap (IntKind.u64.wrap (48 + (Int.tmod v17 10))))] [(0, _, D.int .u8 (IntKind.u8.wrap (IntKind.u64.wrap (48 + (Int.tmod v17 10)))), [D.int .u8 (IntKind.u8.wrap (IntKind.u64.wrap (48 + (Int.tmod v17 10))))])] mk_Luint8 rfl rfl rfl ⟨rfl, rfl, .one rfl, rfl, trivial⟩ ⟨rfl, trivial⟩ rfl rfl <| .apD (ys := [(IntKind.u8.wrap (IntKind.u64.wrap (48 + (Int.tmod v17 10))))]) rfl .sl rfl (.refl _) rfl mk_Luint8 rfl k29.1 k29.2 rfl <| .asg rfl <| .nil) rfl ?_
            refine .region (.mv rfl <| .ar rfl rfl (iquo (by decide)) <| .asg rfl <| .nil) rfl (Ok.on ?_)
            refine .region (.mv rfl <| .ar rfl rfl rfl <| .asg rfl <| .nil) rfl (fun _ _ hs => ⟨((IntKind.u64.wrap (Int.tdiv v17 10)), (IntKind.i64.wrap (v18 + 1)), (v19 ++ [(IntKind.u8.wrap (IntKind.u64.wrap (48 + (Int.tmod v17 10))))])), (Option.some.inj h).symm, hs.subR (fun r => match r with | 2000003 => 40 | r => r) ⟨⟨_, rfl, .own (r := 2000003)⟩, ⟨_, rfl, .refl rfl⟩, ⟨_, rfl, .refl rfl⟩, ⟨_, rfl, .refl rfl⟩, trivial⟩ ⟨⟨_, rfl, .refl rfl⟩, trivial⟩ rfl rfl rfl⟩)
        · rintro _ rfl
          show Ok PP _ [(3, D.own 2000003), (4, natD v10)] [(2000003, rowE (Enc.int .u8) 5 v31)] _ _
          refine .region (.mv rfl <| .asg rfl <| .nil) rfl (fun _ _ hs => ⟨(v10, v31), (Option.some.inj h).symm, hs.sub ⟨⟨_, rfl, .refl _⟩, ⟨_, rfl, .refl _⟩, trivial⟩ ⟨⟨_, rfl, .refl _⟩, trivial⟩ rfl rfl⟩)
      · replace h := ite_neg_some c9 h
        refine .cFb rfl c9 ?_
        refine .exit (fun _ _ hs => ⟨_, (Option.some.inj h).symm, fun e => ⟨v4, e.symm, hs.sub ⟨⟨_, rfl, .refl _⟩, trivial⟩ ⟨⟨_, rfl, .refl _⟩, trivial⟩ rfl rfl⟩⟩)
    · rintro _ rfl
      show Ok PP _ [(3, D.own 2000003)] [(2000003, rowE (Enc.int .u8) 5 v32)] _ _
      refine .sl 3 rfl rfl rfl ?_
      obtain ⟨v33, e34, h⟩ := bind_some h
      refine .reg (.mv rfl <| .callG (Hi := [(2000003, rowE (Enc.int .u8) 5 v32)]) (Ho := [(2000003, rowE (Enc.int .u8) 5 v33)]) (d := D.tup []) (ds := [D.sl 2000003 v32.length]) (.ren (C_Reverse_bytes e34) (fun r => match r with | 0 => 2000003 | r => r) (fun r => match r with | 2000003 => 0 | r => r) rfl ⟨⟨_, rfl, .refl rfl⟩, trivial⟩ rfl ⟨.slo (r := 0), trivial⟩ ⟨⟨_, rfl, .refl rfl⟩, trivial⟩ rfl (.refl rfl) rfl rfl rfl rfl rfl) ⟨rfl, trivial⟩ ⟨rfl, trivial⟩ trivial <| .nil) rfl ?_
      refine .leT 3 (.own 2000003) rfl .sl ?_
      refine .giveE 3 rfl rfl rfl ?_
      refine .reg (.mv rfl <| .cvB rfl (by kernel_rfl) <| .asg rfl <| .nil) rfl ?_
      cases h
      refine .retG (fun _ _ hb => hb) rfl (.cons (.tmp rfl) .nil) (.refl _) trivial trivial
end
end Go.Am
namespace Go.Am
open Go.RowKit
theorem digs_len_zero {x : Nat} : (digs x).length = 0 ↔ x = 0 := by
  constructor
  · intro h
    apply Classical.byContradiction
    intro h0
    have := digs_len_pos h0
    omega
  · rintro rfl; rw [digs_zero]; rfl
theorem digs_len_two {x : Nat} : (digs x).length ≤ 2 ↔ x < 18446744073709551616 := by
  constructor
  · intro h
    have h1 := digs_lt (x := x)
    have h2 : (4294967296 : Nat) ^ (digs x).length ≤ 4294967296 ^ 2 := Nat.pow_le_pow_right (by omega) h
    have : (4294967296 : Nat) ^ 2 = 18446744073709551616 := by decide
    omega
  · exact fun h => digs_len_le (n := 2) h
theorem blen_mono {x y : Nat} (h : x ≤ y) : blen x ≤ blen y := by
  apply blen_small
  exact Nat.lt_of_le_of_lt h (blen_lt y)
theorem sm_le {x y : Nat} (h : x ≤ y) (hy : sm y) : sm x := Nat.le_trans (blen_mono h) hy
theorem blen_lt_of {x n : Nat} (h : blen x ≤ n) : x < 2 ^ n := Nat.lt_of_lt_of_le (blen_lt x) (Nat.pow_le_pow_right (by omega) h)
theorem sm_small {x : Nat} (h : x < 18446744073709551616) : sm x := by
  have : blen x ≤ 64 := blen_small (n := 64) h
  unfold sm; omega
theorem must_of {α : Type} {p : Prop} [Decidable p] {x y : Option α} (hp : p) (h : x = y) : must p x = y := by rw [must_eq hp, h]
theorem n_of_eq {n : Nat} (h : n < 18446744073709551616) : n_of (n : Int) = some n := must_of ⟨by omega, by omega⟩ rfl
theorem n_small_eq {x : Nat} (h : x < 18446744073709551616) : n_small x = some (x : Int) := must_of (digs_len_two.2 h) rfl
theorem n_add_eq {a b : Nat} (h : sm a) (k : sm b) : n_add a b = some (a + b) := must_of ⟨h, k⟩ rfl
theorem n_sub_eq {a b : Nat} (h : b ≤ a) (k : sm a) : n_sub a b = some (a - b) := must_of ⟨h, k⟩ rfl
theorem n_mul_eq {a b : Nat} (h : sm a) (k : sm b) : n_mul a b = some (a * b) := must_of ⟨h, k⟩ rfl
theorem n_cmp_eq {a b : Nat} (h : sm a) (k : sm b) : n_cmp a b = some (cmpn a b) := must_of ⟨h, k⟩ rfl
theorem n_bits_eq {a : Nat} (h : sm a) : n_bits a = some (blen a : Int) := must_of h rfl
theorem n_div_eq {a b : Nat} (hb : b ≠ 0) (h : sm a) (k : sm b) : n_div a b = some (a / b, a % b) := must_of ⟨hb, h, k⟩ rfl
theorem gcd_small (x y : Nat) : Loop (fun (s : Int × Int) => m_nat_gcd_l2 s.1 s.2) ((x : Int), (y : Int)) = some ((Nat.gcd x y : Nat) : Int) := by
  obtain ⟨r, hr, rfl⟩ := Loop_run (body := fun (s : Int × Int) => m_nat_gcd_l2 s.1 s.2) ((x : Int), (y : Int)) (fun s => ∃ a b : Nat, s = ((a : Int), (b : Int)) ∧ Nat.gcd a b = Nat.gcd x y) (fun s => s.2.toNat) (fun r => r = ((Nat.gcd x y : Nat) : Int)) ⟨x, y, rfl, rfl⟩ (by
    rintro s ⟨a, b, rfl, hg⟩
    simp only [m_nat_gcd_l2]
    by_cases hb : b = 0
    · right
      subst hb
      rw [Nat.gcd_zero_right] at hg
      exact ⟨(a : Int), by simp, by rw [hg]⟩
    · left
      refine ⟨((b : Int), ((a % b : Nat) : Int)), ?_, ⟨b, a % b, rfl, ?_⟩, ?_⟩
      · have h1 : ((b : Int) != 0) = true := by simp; omega
        rw [if_pos h1]
        exact must_of (by omega) rfl
      · rw [← hg, Nat.gcd_comm a b, Nat.gcd_rec b a, Nat.gcd_comm]
      · simp only [Int.toNat_natCast]; exact Nat.mod_lt _ (by omega))
  exact hr
def n_gcd (a b : Nat) : Option Nat := must (sm a ∧ sm b) (some (Nat.gcd a b))
theorem n_gcd_eq {a b : Nat} (h : sm a) (k : sm b) : n_gcd a b = some (Nat.gcd a b) := must_of ⟨h, k⟩ rfl
theorem gcd_round0 {a : Nat} : m_nat_gcd_l1 a 0 = some (.done (Ex.brk a)) := by simp [m_nat_gcd_l1, digs_zero]
theorem gcd_round1' {a b : Nat} (h0 : b ≠ 0) (ha : (digs a).length ≤ 2) (hb : (digs b).length ≤ 2) (e1 : n_small a = some (a : Int)) (e2 : n_small b = some (b : Int)) (e3 : n_of ((Nat.gcd a b : Nat) : Int) = some (Nat.gcd a b)) : m_nat_gcd_l1 a b = some (.done (Ex.ret (Nat.gcd a b))) := by
  have hl : (decide (((digs b).length : Int) > 0)) = true := by have := digs_len_pos h0; simp; omega
  have h3 : (decide (((digs a).length : Int) ≤ 2)) = true := by simp; omega
  have h4 : (decide (((digs b).length : Int) ≤ 2)) = true := by simp; omega
  unfold m_nat_gcd_l1
  rw [if_pos hl, if_pos h3, if_pos h4, e1, e2, Option.bind_some, Option.bind_some, gcd_small, Option.bind_some, e3]
  rfl
theorem gcd_round1 {a b : Nat} (h0 : b ≠ 0) (ha : a < 18446744073709551616) (hb : b < 18446744073709551616) : m_nat_gcd_l1 a b = some (.done (Ex.ret (Nat.gcd a b))) :=
  gcd_round1' h0 (digs_len_two.2 ha) (digs_len_two.2 hb) (n_small_eq ha) (n_small_eq hb) (n_of_eq (Nat.lt_of_le_of_lt (Nat.gcd_le_right _ (Nat.pos_of_ne_zero h0)) hb))
theorem gcd_round2 {a b : Nat} (h0 : b ≠ 0) (hab : ¬ (a < 18446744073709551616 ∧ b < 18446744073709551616)) (ha : sm a) (hb : sm b) : m_nat_gcd_l1 a b = some (.next (b, a % b)) := by
  have hl : (decide (((digs b).length : Int) > 0)) = true := by have := digs_len_pos h0; simp; omega
  unfold m_nat_gcd_l1
  rw [if_pos hl]
  by_cases h3 : (digs a).length ≤ 2
  · have h4 : ¬ (digs b).length ≤ 2 := fun h => hab ⟨digs_len_two.1 h3, digs_len_two.1 h⟩
    rw [if_pos (by simp; omega), if_neg (by simp; omega)]
    simp only [Option.bind_some, n_div_eq h0 ha hb]
  · rw [if_neg (by simp; omega)]
    simp only [Option.bind_some, n_div_eq h0 ha hb]
theorem gcd_is (x y : Nat) (hx : sm x) (hy : sm y) : m_nat_gcd x y = some (Nat.gcd x y) := by
  obtain ⟨r, hr, hq⟩ := Loop_run (body := fun (s : Nat × Nat) => m_nat_gcd_l1 s.1 s.2) (x, y) (fun s => sm s.1 ∧ sm s.2 ∧ Nat.gcd s.1 s.2 = Nat.gcd x y) (fun s => s.2) (fun r => r = Ex.brk (Nat.gcd x y) ∨ r = Ex.ret (Nat.gcd x y)) ⟨hx, hy, rfl⟩ (by
    rintro ⟨a, b⟩ ⟨ha, hb, hg⟩
    simp only at ha hb hg ⊢
    by_cases h0 : b = 0
    · right
      subst h0
      rw [Nat.gcd_zero_right] at hg
      exact ⟨_, gcd_round0, .inl (by rw [hg])⟩
    by_cases h2 : a < 18446744073709551616 ∧ b < 18446744073709551616
    · right
      exact ⟨_, gcd_round1 h0 h2.1 h2.2, .inr (by rw [hg])⟩
    · left
      exact ⟨_, gcd_round2 h0 h2 ha hb, ⟨hb, sm_le (Nat.le_of_lt (Nat.mod_lt _ (Nat.pos_of_ne_zero h0))) hb, by rw [← hg, Nat.gcd_comm a b, Nat.gcd_rec b a, Nat.gcd_comm]⟩, Nat.mod_lt _ (Nat.pos_of_ne_zero h0)⟩)
  unfold m_nat_gcd
  rw [hr]
  rcases hq with rfl | rfl <;> rfl
theorem N_gcd {a b r : Nat} (h : n_gcd a b = some r) : CtrG PP 214 [] [natD a, natD b] [] (natD r) := by
  obtain ⟨⟨h0, h1⟩, h⟩ := must_some h
  injection h with h; subst h
  exact C_nat_gcd (gcd_is a b h0 h1)
def isqrt : Nat → Nat
  | 0 => 0
  | x + 1 => if (isqrt x + 1) * (isqrt x + 1) ≤ x + 1 then isqrt x + 1 else isqrt x
theorem isqrt_le : ∀ x, isqrt x * isqrt x ≤ x
  | 0 => by simp [isqrt]
  | x + 1 => by
    have := isqrt_le x
    simp only [isqrt]
    split
    · assumption
    · omega
theorem isqrt_lt : ∀ x, x < (isqrt x + 1) * (isqrt x + 1)
  | 0 => by simp [isqrt]
  | x + 1 => by
    have h := isqrt_lt x
    simp only [isqrt]
    split
    · have h2 : (isqrt x + 1 + 1) * (isqrt x + 1 + 1) = (isqrt x + 1) * (isqrt x + 1) + 2 * (isqrt x + 1) + 1 := by
        rw [Nat.add_mul, Nat.mul_add]; omega
      omega
    · omega
theorem le_isqrt {x n : Nat} (h : n * n ≤ x) : n ≤ isqrt x := by
  apply Nat.le_of_lt_succ
  apply Classical.byContradiction
  intro hc
  have h1 := Nat.mul_le_mul (Nat.le_of_not_lt hc) (Nat.le_of_not_lt hc)
  have := isqrt_lt x
  simp only [Nat.succ_eq_add_one] at h1
  omega
theorem newton_ge {a x s : Nat} (hx : 0 < x) (hs : s * s ≤ a) : s ≤ (x + a / x) / 2 := by
  rw [Nat.le_div_iff_mul_le (by omega)]
  rcases Nat.lt_or_ge (2 * s) x with h | h
  · generalize a / x = q
    omega
  · have h1 : 2 * s - x ≤ a / x := by
      rw [Nat.le_div_iff_mul_le hx]
      refine Nat.le_trans ?_ hs
      have h2 : (2 * s - x) * x + x * x = 2 * s * x := by rw [← Nat.add_mul, Nat.sub_add_cancel h]
      have h3 : 2 * s * x ≤ s * s + x * x := by
        rcases Nat.le_total s x with h | h
        · obtain ⟨d, rfl⟩ := Nat.exists_eq_add_of_le h
          rw [Nat.mul_add, Nat.add_mul, Nat.mul_add s, Nat.mul_add d]
          have : 2 * s * s = s * s + s * s := by rw [Nat.mul_assoc]; omega
          have : 2 * s * d = s * d + s * d := by rw [Nat.mul_assoc]; omega
          have : d * s = s * d := Nat.mul_comm _ _
          omega
        · obtain ⟨d, rfl⟩ := Nat.exists_eq_add_of_le h
          have e1 : 2 * (x + d) * x = x * x + x * x + (d * x + d * x) := by
            rw [Nat.mul_assoc, Nat.add_mul]; omega
          have e2 : (x + d) * (x + d) = x * x + x * d + (d * x + d * d) := by rw [Nat.add_mul, Nat.mul_add, Nat.mul_add]
          have e3 : x * d = d * x := Nat.mul_comm _ _
          omega
      omega
    generalize a / x = q at h1 ⊢
    omega
theorem blen_le_iff {x n : Nat} : blen x ≤ n ↔ x < 2 ^ n := ⟨blen_lt_of, blen_small⟩
theorem blen_add {x y n : Nat} (h : blen x ≤ n) (k : blen y ≤ n) : blen (x + y) ≤ n + 1 := by
  rw [blen_le_iff] at *
  rw [Nat.pow_succ]; omega
theorem blen_pow {a n : Nat} (h : a < n) : blen (2 ^ a) ≤ n := blen_le_iff.2 (Nat.pow_lt_pow_right (by omega) h)
def n_root (a : Nat) : Option Nat := must (blen a ≤ 2199023255552) (some (isqrt a))
theorem wrap_small {n : Int} (h0 : -9223372036854775808 ≤ n) (h1 : n < 9223372036854775808) : IntKind.i64.wrap n = n := by rw [IntKind.wrap_i64]; omega
theorem n_shr_eq {a k : Nat} (h : sm a) (hk : k < 35184372088832) : n_shr a (k : Int) = some (a / 2 ^ k) := must_of ⟨h, by omega, by omega⟩ (by rw [Int.toNat_natCast])
theorem n_shl_eq {a k : Nat} (h : sm a) (hk : k < 35184372088832) : n_shl a (k : Int) = some (a * 2 ^ k) := must_of ⟨h, by omega, by omega⟩ (by rw [Int.toNat_natCast])
theorem cmpn_ge0 {x y : Nat} (h : y ≤ x) : cmpn x y ≥ 0 := by unfold cmpn; rw [if_neg (by omega)]; split <;> omega
theorem root_is (a : Nat) (h : blen a ≤ 2199023255552) : m_nat_root a = some (isqrt a) := by
  unfold m_nat_root
  by_cases h0 : a = 0
  · subst h0; simp [digs_zero, isqrt]
  have hl := digs_len_pos h0
  have hsa : sm a := Nat.le_trans h (by omega)
  have hl2 : ¬ (((digs a).length : Int) == 0) = true := by
    rw [beq_iff_eq]; omega
  rw [if_neg hl2]
  have e1 : n_of (1 : Int) = some 1 := n_of_eq (n := 1) (by omega)
  rw [e1, n_bits_eq hsa]
  simp only [Option.bind_some]
  have ew : IntKind.i64.wrap (Int.tdiv (IntKind.i64.wrap ((blen a : Int) + 1)) 2) = (((blen a + 1) / 2 : Nat) : Int) := by
    rw [wrap_small (n := (blen a : Int) + 1) (by omega) (by omega), Int.tdiv_eq_ediv_of_nonneg (by omega), wrap_small (by omega) (by omega)]
    omega
  rw [ew, n_shl_eq (sm_small (by omega)) (by omega), Nat.one_mul]
  simp only [Option.bind_some]
  have hp0 : 0 < 2 ^ ((blen a + 1) / 2) := Nat.two_pow_pos _
  have hs0 : isqrt a ≤ 2 ^ ((blen a + 1) / 2) := by
    apply Classical.byContradiction
    intro hc
    have h1 := Nat.mul_le_mul (Nat.le_of_lt (Nat.lt_of_not_le hc)) (Nat.le_of_lt (Nat.lt_of_not_le hc))
    have h2 := isqrt_le a
    have h3 := blen_lt a
    rw [← Nat.pow_add] at h1
    have h4 : (2 : Nat) ^ blen a ≤ 2 ^ ((blen a + 1) / 2 + (blen a + 1) / 2) := Nat.pow_le_pow_right (by omega) (by omega)
    omega
  have hb0 : blen (2 ^ ((blen a + 1) / 2)) ≤ 1099511627778 := blen_pow (by omega)
  generalize 2 ^ ((blen a + 1) / 2) = x0 at *
  obtain ⟨r, hr, rfl⟩ := Loop_run (body := fun s => m_nat_root_l1 a s) x0 (fun x => 0 < x ∧ isqrt a ≤ x ∧ blen x ≤ 1099511627778) id (fun r => r = isqrt a) ⟨hp0, hs0, hb0⟩ (by
    intro x ⟨hx, hsx, hbx⟩
    have hsx' : sm x := Nat.le_trans hbx (by omega)
    have hbd : blen (a / x) ≤ 2199023255552 := Nat.le_trans (blen_mono (Nat.div_le_self _ _)) h
    have hsd : sm (a / x) := Nat.le_trans hbd (by omega)
    have hsum : sm (x + a / x) := by
      exact Nat.le_trans (blen_add (Nat.le_trans hbx (by omega)) hbd) (by omega)
    have hge := newton_ge (a := a) hx (isqrt_le a)
    have hy : sm ((x + a / x) / 2) := sm_le (Nat.div_le_self _ _) hsum
    unfold m_nat_root_l1
    rw [n_div_eq (by omega) hsa hsx']
    simp only [Option.bind_some]
    rw [n_add_eq hsx' hsd]
    simp only [Option.bind_some]
    have e2 : n_shr (x + a / x) 1 = some ((x + a / x) / 2) := n_shr_eq (k := 1) hsum (by omega)
    rw [e2]
    simp only [Option.bind_some]
    rw [n_cmp_eq hy hsx']
    simp only [Option.bind_some]
    by_cases hc : x ≤ (x + a / x) / 2
    · right
      refine ⟨x, ?_, ?_⟩
      · rw [if_pos (decide_eq_true (cmpn_ge0 hc))]
      · have h1 : x ≤ a / x := by omega
        rw [Nat.le_div_iff_mul_le hx] at h1
        exact Nat.le_antisymm (le_isqrt h1) hsx
    · left
      refine ⟨(x + a / x) / 2, ?_, ⟨?_, hge, ?_⟩, by simp only [id]; omega⟩
      · rw [if_neg]
        have : cmpn ((x + a / x) / 2) x = -1 := by unfold cmpn; rw [if_pos (by omega)]
        rw [this]; decide
      · apply Nat.pos_of_ne_zero
        intro e
        have h1 : isqrt a = 0 := by omega
        have h2 := isqrt_lt a
        rw [h1] at h2
        omega
      · exact Nat.le_trans (blen_mono (by omega)) hbx)
  rw [hr]; rfl
theorem N_root {a r : Nat} (h : n_root a = some r) : CtrG PP 170 [] [natD a] [] (natD r) := by
  obtain ⟨h0, h⟩ := must_some h
  injection h with h; subst h
  exact C_nat_root (root_is a h0)
theorem ix_get {α : Type} {xs : List α} {n : Nat} (h : n < xs.length) : ix xs (n : Int) = some xs[n] := by
  unfold ix
  rw [if_pos (by omega), Int.toNat_natCast, List.getElem?_eq_getElem h]
theorem ix_get' {α : Type} {xs : List α} {i : Int} (n : Nat) (hi : i = (n : Int)) (h : n < xs.length) : ix xs i = some xs[n] := by rw [hi, ix_get h]
theorem reverse_is (a : List Int) (hl : a.length ≤ 4398046511110) : m_Reverse_bytes a = some a.reverse := by
  unfold m_Reverse_bytes
  have e0 : IntKind.i64.wrap ((a.length : Int) - 1) = (a.length : Int) - 1 := wrap_small (by omega) (by omega)
  rw [e0]
  obtain ⟨r, hr, rfl⟩ := Loop_run (body := fun (s : Int × Int × (List Int)) => m_Reverse_bytes_l1 s.1 s.2.1 s.2.2) (0, ((a.length : Int) - 1), a)
    (fun s => ∃ k : Nat, s.1 = (k : Int) ∧ s.2.1 = (a.length : Int) - 1 - k ∧ k ≤ a.length ∧ s.2.2.length = a.length ∧ (2 * k ≤ a.length + 1) ∧ ∀ n (h : n < a.length), s.2.2[n]? = if n < k ∨ a.length - 1 - k < n then a[a.length - 1 - n]? else a[n]?)
    (fun s => (s.2.1 + 1).toNat) (fun r => r = a.reverse)
    ⟨0, rfl, by simp, by omega, rfl, by omega, fun n h => by rw [if_neg (by omega)]⟩ (by
      rintro ⟨i, j, xs⟩ ⟨k, hi, hj, hk, hlen, hk2, hx⟩
      simp only at hi hj hlen hx ⊢
      unfold m_Reverse_bytes_l1
      by_cases hlt : i < j
      · left
        have h1 : k < a.length - 1 - k := by omega
        have hj' : j = ((a.length - 1 - k : Nat) : Int) := by omega
        rw [if_pos (decide_eq_true hlt), ix_get' (a.length - 1 - k) hj' (by omega), Option.bind_some, ix_get' k hi (by omega), Option.bind_some]
        rw [ix_get' (a.length - 1 - k) hj' (by rw [List.length_set]; omega), Option.bind_some]
        refine ⟨_, rfl, ⟨k + 1, ?_, ?_, by omega, by simp [hlen], by omega, ?_⟩, by simp only; rw [wrap_small (by omega) (by omega)]; omega⟩
        · simp only; rw [wrap_small (by omega) (by omega)]; omega
        · simp only; rw [wrap_small (by omega) (by omega)]; omega
        · intro n hn
          simp only
          rw [show j.toNat = a.length - 1 - k from by omega, show i.toNat = k from by omega]
          have ek := hx k (by omega)
          have ej := hx (a.length - 1 - k) (by omega)
          rw [if_neg (by omega)] at ek ej
          rw [List.getElem?_eq_getElem (by omega)] at ek ej
          by_cases c1 : n = a.length - 1 - k
          · subst c1
            rw [List.getElem?_set_self (by rw [List.length_set]; omega), if_pos (by omega), ek]
            rw [show a.length - 1 - (a.length - 1 - k) = k from by omega]
          · rw [List.getElem?_set_ne (by omega)]
            by_cases c2 : n = k
            · subst c2
              rw [List.getElem?_set_self (by omega), if_pos (by omega), ej]
            · rw [List.getElem?_set_ne (by omega), hx n hn]
              by_cases c3 : n < k ∨ a.length - 1 - k < n
              · rw [if_pos c3, if_pos (by omega)]
              · rw [if_neg c3, if_neg (by omega)]
      · right
        rw [if_neg (by simpa using hlt)]
        refine ⟨xs, rfl, ?_⟩
        apply List.ext_getElem?
        intro n
        by_cases hn : n < a.length
        · rw [hx n hn, List.getElem?_reverse hn]
          split
          · rfl
          · rw [show a.length - 1 - n = n from by omega]
        · rw [List.getElem?_eq_none (by omega), List.getElem?_eq_none (by simp; omega)])
  rw [hr]; rfl
def dR (x : Nat) : List Int := if h : x = 0 then [] else ((48 + x % 10 : Nat) : Int) :: dR (x / 10)
termination_by x
decreasing_by exact Nat.div_lt_self (Nat.pos_of_ne_zero h) (by decide)
theorem dR_zero : dR 0 = [] := by rw [dR]; rfl
theorem dR_pos {x : Nat} (h : x ≠ 0) : dR x = ((48 + x % 10 : Nat) : Int) :: dR (x / 10) := by rw [dR, dif_neg h]
theorem dR_len : ∀ (n x : Nat), x < 2 ^ n → (dR x).length ≤ n
  | 0, x, h => by
    have : x = 0 := by simp at h; exact h
    subst this; rw [dR_zero]; exact Nat.le_refl _
  | n + 1, x, h => by
    by_cases h0 : x = 0
    · subst h0; rw [dR_zero]; exact Nat.zero_le _
    · rw [dR_pos h0, List.length_cons]
      have := dR_len n (x / 10) (by rw [Nat.pow_succ] at h; omega)
      omega
def decL (x : Nat) : List UInt8 := if x = 0 then [48] else bytesOf (dR x).reverse
def n_dec (a : Nat) : Option (List UInt8) := must (sm a) (some (decL a))
theorem u8_in' (n : Int) (h : 0 ≤ n ∧ n ≤ 255) : IntKind.u8.wrap n = n := by rw [IntKind.wrap_u8]; omega
theorem u64_in {n : Int} (h0 : 0 ≤ n) (h1 : n < 18446744073709551616) : IntKind.u64.wrap n = n := by rw [IntKind.wrap_u64]; omega
theorem n_short_eq {a : Nat} {d : Int} (h : sm a) (k : 1 ≤ d ∧ d < 4294967296) : n_short a d = some (a / d.toNat, a % d.toNat) := must_of ⟨h, k⟩ rfl
theorem dR_len_of {x n : Nat} (h : blen x ≤ n) : (dR x).length ≤ n := dR_len _ _ (blen_lt_of h)
theorem dec_run2 (tgt : List Int) (q n : Nat) (b : List Int) (hn : n < 1000000000) (ht : tgt.length ≤ 4398046511104) (hq : (digs q).length = 0 ↔ q = 0) (hb : b ++ dR (q * 1000000000 + n) = tgt) :
    ∃ b', Loop (fun (s : Int × Int × (List Int)) => m_nat_decimal_l2 q s.1 s.2.1 s.2.2) ((n : Int), 0, b) = some b' ∧ b' ++ dR q = tgt := by
  refine Loop_run (body := fun (s : Int × Int × (List Int)) => m_nat_decimal_l2 q s.1 s.2.1 s.2.2) ((n : Int), 0, b)
    (fun s => ∃ m k : Nat, s.1 = (m : Int) ∧ s.2.1 = ((9 - k : Nat) : Int) ∧ k ≤ 9 ∧ m < 10 ^ k ∧ s.2.2 ++ dR (q * 10 ^ k + m) = tgt)
    (fun s => (9 - s.2.1).toNat) (fun r => r ++ dR q = tgt) ⟨n, 9, rfl, rfl, by omega, hn, hb⟩ ?_
  rintro ⟨i, j, b⟩ ⟨m, k, hi, hj, hk, hm, hb⟩
  simp only at hi hj hb ⊢
  subst hi; subst hj
  unfold m_nat_decimal_l2
  by_cases h9 : k = 0
  · right
    subst h9
    rw [if_neg (by simp), Option.bind_some]
    simp only
    rw [Nat.pow_zero] at hm hb
    refine ⟨b, rfl, ?_⟩
    rw [show q = q * 1 + m from by omega]; exact hb
  obtain ⟨k, rfl⟩ := Nat.exists_eq_succ_of_ne_zero h9
  have hlt : ((9 - (k + 1) : Nat) : Int) < 9 := by omega
  rw [Nat.succ_eq_add_one, if_pos (decide_eq_true hlt)]
  by_cases hz : q = 0 ∧ m = 0
  · right
    obtain ⟨rfl, rfl⟩ := hz
    rw [if_neg (by rw [hq.2 rfl]; decide), if_neg (by decide), Option.bind_some]
    refine ⟨b, rfl, ?_⟩
    rw [Nat.zero_mul] at hb; exact hb
  · left
    have hp : q * 10 ^ (k + 1) + m ≠ 0 := by
      intro h
      apply hz
      constructor
      · apply Classical.byContradiction
        intro h1
        have := Nat.mul_pos (Nat.pos_of_ne_zero h1) (show 0 < 10 ^ (k + 1) from Nat.pow_pos (by decide))
        omega
      · omega
    have hgo : (if (decide (((digs q).length : Int) > 0)) = true then some (Ex.brk ()) else (if (decide ((m : Int) > 0)) = true then some (Ex.brk ()) else some (Ex.ret ())) : Option (Ex Unit Unit)) = some (Ex.brk ()) := by
      by_cases h1 : q = 0
      · rw [if_neg (by rw [hq.2 h1]; decide), if_pos (decide_eq_true (by have := fun h => hz ⟨h1, h⟩; omega))]
      · rw [if_pos (decide_eq_true (by have := fun h => h1 (hq.1 h); omega))]
    rw [hgo, Option.bind_some]
    simp only
    have hm' : m < 1000000000 := Nat.lt_of_lt_of_le hm (show 10 ^ (k + 1) ≤ 10 ^ 9 from Nat.pow_le_pow_right (by decide) (by omega))
    have e1 : IntKind.u8.wrap (IntKind.u64.wrap (48 + Int.tmod (m : Int) 10)) = ((48 + (q * 10 ^ (k + 1) + m) % 10 : Nat) : Int) := by
      rw [Int.tmod_eq_emod_of_nonneg (by omega), u64_in (by omega) (by omega), u8_in' _ (by omega)]
      have : (q * 10 ^ (k + 1) + m) % 10 = m % 10 := by
        rw [Nat.pow_succ, ← Nat.mul_assoc, Nat.add_comm, Nat.add_mul_mod_self_right]
      rw [this]; omega
    have e2 : IntKind.u64.wrap (Int.tdiv (m : Int) 10) = ((m / 10 : Nat) : Int) := by
      rw [Int.tdiv_eq_ediv_of_nonneg (by omega), u64_in (by omega) (by omega)]; omega
    have e3 : (q * 10 ^ (k + 1) + m) / 10 = q * 10 ^ k + m / 10 := by
      rw [Nat.pow_succ, ← Nat.mul_assoc, Nat.add_comm, Nat.add_mul_div_right _ _ (by decide), Nat.add_comm]
    have e4 : IntKind.i64.wrap (((9 - (k + 1) : Nat) : Int) + 1) = ((9 - k : Nat) : Int) := by rw [wrap_small (by omega) (by omega)]; omega
    rw [dR_pos hp, e3] at hb
    rw [e1, e2, e4]
    have hbl : b.length + 1 ≤ tgt.length := by rw [← hb, List.length_append, List.length_cons]; omega
    refine ⟨_, must_of ⟨by simp only [List.length_cons, List.length_nil]; omega, by simp only [List.length_cons, List.length_nil]; omega⟩ rfl, ⟨m / 10, k, rfl, rfl, by omega, ?_, ?_⟩, by simp only; omega⟩
    · rw [Nat.pow_succ] at hm; exact Nat.div_lt_of_lt_mul (by rw [Nat.mul_comm]; exact hm)
    · simp only; rw [← hb, List.append_assoc]; rfl
theorem dec_run (a : Nat) (h : sm a) : Loop (fun (s : Nat × (List Int)) => m_nat_decimal_l1 s.1 s.2) (a, []) = some (dR a) := by
  obtain ⟨r, hr, rfl⟩ := Loop_run (body := fun (s : Nat × (List Int)) => m_nat_decimal_l1 s.1 s.2) (a, []) (fun s => sm s.1 ∧ s.2 ++ dR s.1 = dR a) (fun s => s.1) (fun r => r = dR a) ⟨h, rfl⟩ (by
    rintro ⟨x, b⟩ ⟨hx, hb⟩
    simp only at hx hb ⊢
    unfold m_nat_decimal_l1
    by_cases h0 : x = 0
    · right
      subst h0
      rw [if_neg (by rw [digs_len_zero.2 rfl]; decide)]
      refine ⟨b, rfl, ?_⟩
      rw [dR_zero, List.append_nil] at hb; exact hb
    · left
      have hl := digs_len_pos h0
      rw [if_pos (decide_eq_true (by omega)), n_short_eq hx ⟨by decide, by decide⟩, Option.bind_some]
      simp only
      have en : (1000000000 : Int).toNat = 1000000000 := rfl
      rw [en]
      have hlt : x % 1000000000 < 1000000000 := Nat.mod_lt _ (by decide)
      rw [n_small_eq (by omega), Option.bind_some]
      obtain ⟨b', hb', hb2⟩ := dec_run2 (dR a) (x / 1000000000) (x % 1000000000) b hlt (dR_len_of h) digs_len_zero (by
        rw [show x / 1000000000 * 1000000000 + x % 1000000000 = x from Nat.div_add_mod' x 1000000000]; exact hb)
      rw [hb']
      exact ⟨_, rfl, ⟨sm_le (Nat.div_le_self _ _) hx, hb2⟩, Nat.div_lt_self (Nat.pos_of_ne_zero h0) (by decide)⟩)
  exact hr
theorem dec_is (a : Nat) (h : sm a) : m_nat_decimal a = some (decL a) := by
  unfold m_nat_decimal decL
  by_cases h0 : a = 0
  · subst h0; rw [if_pos (by rw [digs_len_zero.2 rfl]; rfl), if_pos rfl]
  · have hl := digs_len_pos h0
    have hl2 : ¬ (((digs a).length : Int) == 0) = true := by rw [beq_iff_eq]; omega
    rw [if_neg hl2, if_neg h0, dec_run a h, Option.bind_some, reverse_is _ (Nat.le_trans (dR_len_of h) (by omega))]
    rfl
theorem N_dec {a : Nat} {r : List UInt8} (h : n_dec a = some r) : CtrG PP 176 [] [natD a] [] (strD r) := by
  obtain ⟨h0, h⟩ := must_some h
  injection h with h; subst h
  exact C_nat_decimal (dec_is a h0)
end Go.Am
namespace Go.Am
open Go.RowKit
def qC (x : Rat) : List D := [.bool (decide (x.num < 0)), natD x.num.natAbs, natD (x.den - 1)]
def qD (x : Rat) : D := .agg (qC x)
def Enc.rat : Enc Rat := ⟨3, qC, fun _ => rfl, fun _ => rfl⟩
theorem zq1 : Le (.bool false) (.bool (decide ((0 : Rat).num < 0))) := .refl _
theorem zq2 : Le .nil (natD (0 : Rat).num.natAbs) := nil_nat
theorem zq3 : Le .nil (natD ((0 : Rat).den - 1)) := nil_nat
def dg10 (x : Nat) : List Int := if h : x = 0 then [] else ((x % 10000 : Nat) : Int) :: dg10 (x / 10000)
termination_by x
decreasing_by exact Nat.div_lt_self (by omega) (by omega)
theorem dg10_zero : dg10 0 = [] := by rw [dg10]; simp
theorem dg10_pos {x : Nat} (h : x ≠ 0) : dg10 x = ((x % 10000 : Nat) : Int) :: dg10 (x / 10000) := by rw [dg10]; simp [h]
def denD (d : Nat) : D where
  p := fun ε w S v => ∃ l : List Int, (l = dg10 d ∨ (d = 1 ∧ l = [])) ∧ (slcE (Enc.int .i64) l).p ε w S v
  nm := []
  sh := .one
  mono := fun ⟨l, hl, h⟩ he hS => ⟨l, hl, (slcE (Enc.int .i64) l).mono h (fun r hr => by cases hr) hS⟩
  shok := fun ⟨l, _, h⟩ => (slcE (Enc.int .i64) l).shok h
def rqC (x : Rat) : List D := [.bool (decide (x.num < 0)), slcE (Enc.int .i64) (dg10 x.num.natAbs), .bool false, denD x.den]
def rqD (x : Rat) : D := .agg (rqC x)
def Enc.rq : Enc Rat := ⟨4, rqC, fun _ => rfl, fun _ => rfl⟩
theorem dg10_nil : Le .nil (slcE (Enc.int .i64) (dg10 0)) := by rw [dg10_zero]; exact .nilE _
theorem zr1 : Le (.bool false) (.bool (decide ((0 : Rat).num < 0))) := .refl _
theorem zr2 : Le .nil (slcE (Enc.int .i64) (dg10 (0 : Rat).num.natAbs)) := dg10_nil
theorem zr4 : Le .nil (denD (0 : Rat).den) := ⟨fun ε w S v h => ⟨[], .inr ⟨rfl, rfl⟩, (Le.nilE (Enc.int .i64)).1 ε w S v h⟩, fun r hr => by cases hr⟩
def sz (x : Rat) : Nat := max (blen x.num.natAbs) (blen x.den)
def qs' (x : Rat) : Prop := sz x ≤ 400000000000
instance (x : Rat) : Decidable (qs' x) := inferInstanceAs (Decidable (sz x ≤ 400000000000))
def i64r (n : Int) : Prop := -9223372036854775808 ≤ n ∧ n < 9223372036854775808
instance (n : Int) : Decidable (i64r n) := inferInstanceAs (Decidable (_ ∧ _))
def sgn (x : Rat) : Int := if x < 0 then -1 else if x = 0 then 0 else 1
def cmpq (x y : Rat) : Int := if x < y then -1 else if y < x then 1 else 0
def q_int (n : Int) : Option Rat := must (i64r n) (some (n : Rat))
def q_of (n d : Int) : Option (Rat × Int) := must (i64r n ∧ i64r d) (some (if d = 0 then (0, 9) else ((n : Rat) / (d : Rat), 0)))
def q_add (a b : Rat) : Option Rat := must (qs' a ∧ qs' b) (some (a + b))
def q_sub (a b : Rat) : Option Rat := must (qs' a ∧ qs' b) (some (a - b))
def q_mul (a b : Rat) : Option Rat := must (qs' a ∧ qs' b) (some (a * b))
def q_over (a b : Rat) : Option Rat := must (b ≠ 0 ∧ qs' a ∧ qs' b) (some (a / b))
def q_abs (a : Rat) : Option Rat := some (if a < 0 then -a else a)
def q_cmp (a b : Rat) : Option Int := must (qs' a ∧ qs' b) (some (cmpq a b))
def q_sign (a : Rat) : Option Int := some (sgn a)
def q_den (a : Rat) : Option Rat := must (qs' a) (some (a.den : Rat))
def q_floor (a : Rat) : Option Rat := must (qs' a) (some (a.floor : Rat))
def txt (a : Rat) : List UInt8 := (if a.num < 0 then [45] else []) ++ decL a.num.natAbs ++ (if a.den = 1 then [] else 47 :: decL a.den)
def q_text (a : Rat) : Option (List UInt8) := must (qs' a) (some (txt a))
end Go.Am
namespace Go.Am
open Go.RowKit
set_option maxRecDepth 100000
noncomputable section
def m_wholeOf (a1 : Bool) (a2 : Nat) : Option (Bool × Nat) := (if a1 = true then some ((decide (((digs a2).length : Int) > 0)), a2) else some (false, a2))
theorem C_wholeOf {a1 : Bool} {a2 : Nat} {r4 : Bool} {r5 : Nat} (h : m_wholeOf a1 a2 = some (r4, r5)) : CtrG PP 152 [] [D.bool a1, natD a2] [] (D.agg ([D.bool r4, natD r5])) := by
  unfold m_wholeOf at h
  refine .of Go.Proofs.Tryz.func152 rfl (by kernel_rfl) rfl rfl rfl rfl rfl rfl (fun A w0 L b => ?_)
  show Ok PP _ [(0, D.bool a1), (1, natD a2)] [] _ _
  refine .reg (.alL ([D.bool false, natD 0]) z_exact_whole ⟨.refl _, nil_nat, trivial⟩ rfl <| .nil) rfl ?_
  by_cases c3 : a1 = true
  · replace h := ite_pos_some c3 h
    refine .reg (.mv rfl <| .mv rfl <| .gYt rfl rfl rfl c3 <| .mv rfl <| .gYt rfl rfl rfl c3 <| .lnD rfl is_exact_nat <| .gYt rfl rfl rfl c3 <| .cm rfl rfl rfl <| .pkTb rfl c3 rfl <| .mv rfl <| .bdQ ([D.bool (decide (((digs a2).length : Int) > 0)), natD a2]) [(0, _, D.bool (decide (((digs a2).length : Int) > 0)), [D.bool (decide (((digs a2).length : Int) > 0))]), (1, _, natD a2, [natD a2])] z_exact_whole pl_exact_whole ⟨rfl, rfl, .one rfl, rfl, rfl, rfl, .one rfl, rfl, trivial⟩ ⟨rfl, rfl, trivial⟩ ⟨.refl _, .refl _, trivial⟩ <| .stE ([D.bool (decide (((digs a2).length : Int) > 0)), natD a2]) rfl rfl rfl ly_exact_whole rfl rfl rfl <| .nil) rfl ?_
    cases h
    refine .retG (fun _ _ hb => hb) rfl (.cons (.agg rfl rfl ly_exact_whole rfl) .nil) (.refl _) trivial trivial
  · replace h := ite_neg_some c3 h
    refine .reg (.mv rfl <| .mv rfl <| .gNt rfl rfl rfl c3 <| .gNt rfl rfl rfl c3 <| .gNt rfl rfl rfl c3 <| .pkFb rfl c3 rfl <| .mv rfl <| .bdQ ([D.bool false, natD a2]) [(0, _, D.bool false, [D.bool false]), (1, _, natD a2, [natD a2])] z_exact_whole pl_exact_whole ⟨rfl, rfl, .one rfl, rfl, rfl, rfl, .one rfl, rfl, trivial⟩ ⟨rfl, rfl, trivial⟩ ⟨.refl _, .refl _, trivial⟩ <| .stE ([D.bool false, natD a2]) rfl rfl rfl ly_exact_whole rfl rfl rfl <| .nil) rfl ?_
    cases h
    refine .retG (fun _ _ hb => hb) rfl (.cons (.agg rfl rfl ly_exact_whole rfl) .nil) (.refl _) trivial trivial
def m_whole_sign (a1 : Bool) (a2 : Nat) : Option Int := (if a1 = true then some (-1) else (if (((digs a2).length : Int) == 0) = true then some 0 else some 1))
theorem C_whole_sign {a1 : Bool} {a2 : Nat} {r5 : Int} (h : m_whole_sign a1 a2 = some r5) : CtrG PP 153 [] [D.agg ([D.bool a1, natD a2])] [] (D.int .i64 r5) := by
  unfold m_whole_sign at h
  refine .of Go.Proofs.Tryz.func153 rfl (by kernel_rfl) rfl rfl rfl rfl rfl rfl (fun A w0 L b => ?_)
  show Ok PP _ [(0, D.agg ([D.bool a1, natD a2]))] [] _ _
  refine .reg (.bxA rfl rfl <| .asg rfl <| .nil) rfl ?_
  refine .sq ?_
  refine .block ?_
  refine .reg (.fa rfl f_exact_whole_0 <| .ldE1 (D.bool a1) rfl rfl ly_bool rfl <| .asg rfl <| .nil) rfl ?_
  by_cases c3 : a1 = true
  · replace h := ite_pos_some c3 h
    refine .cTb rfl c3 ?_
    refine .reg (.asg rfl <| .nil) rfl ?_
    cases h
    refine .retG (fun _ _ hb => hb) rfl (.cons (.tmp rfl) .nil) (.refl _) trivial trivial
  · replace h := ite_neg_some c3 h
    refine .cFb rfl c3 ?_
    refine .reg (.fa rfl f_exact_whole_1 <| .ldE1 (natD a2) rfl rfl ly_exact_nat rfl <| .lnD rfl is_exact_nat <| .cm rfl rfl rfl <| .asg rfl <| .nil) rfl ?_
    by_cases c4 : (((digs a2).length : Int) == 0) = true
    · replace h := ite_pos_some c4 h
      refine .cTb rfl c4 ?_
      refine .reg (.asg rfl <| .nil) rfl ?_
      cases h
      refine .retG (fun _ _ hb => hb) rfl (.cons (.tmp rfl) .nil) (.refl _) trivial trivial
    · replace h := ite_neg_some c4 h
      refine .cFb rfl c4 ?_
      refine .skip (Ok.on ?_)
      refine .reg (.asg rfl <| .nil) rfl ?_
      cases h
      refine .retG (fun _ _ hb => hb) rfl (.cons (.tmp rfl) .nil) (.refl _) trivial trivial
def m_whole_add (a1 : Bool) (a2 : Nat) (a3 : Bool) (a4 : Nat) : Option (Bool × Nat) := (if (a1 == a3) = true then (n_add a2 a4).bind fun v6 => (m_wholeOf a1 v6).bind fun (v8, v9) => some (v8, v9) else (n_cmp a2 a4).bind fun v11 => (if (decide (v11 ≥ 0)) = true then (n_sub a2 a4).bind fun v14 => (m_wholeOf a1 v14).bind fun (v16, v17) => some (v16, v17) else (n_sub a4 a2).bind fun v19 => (m_wholeOf a3 v19).bind fun (v21, v22) => some (v21, v22)))
theorem C_whole_add {a1 : Bool} {a2 : Nat} {a3 : Bool} {a4 : Nat} {r24 : Bool} {r25 : Nat} (h : m_whole_add a1 a2 a3 a4 = some (r24, r25)) : CtrG PP 180 [] [D.agg ([D.bool a1, natD a2]), D.agg ([D.bool a3, natD a4])] [] (D.agg ([D.bool r24, natD r25])) := by
  unfold m_whole_add at h
  refine .of Go.Proofs.Tryz.func180 rfl (by kernel_rfl) rfl rfl rfl rfl rfl rfl (fun A w0 L b => ?_)
  show Ok PP _ [(0, D.agg ([D.bool a1, natD a2])), (1, D.agg ([D.bool a3, natD a4]))] [] _ _
  refine .reg (.bxA rfl rfl <| .bxA rfl rfl <| .alL ([D.bool false, natD 0]) z_exact_whole ⟨.refl _, nil_nat, trivial⟩ rfl <| .nil) rfl ?_
  refine .sq ?_
  refine .block ?_
  refine .reg (.fa rfl f_exact_whole_0 <| .ldE1 (D.bool a1) rfl rfl ly_bool rfl <| .fa rfl f_exact_whole_0 <| .ldE1 (D.bool a3) rfl rfl ly_bool rfl <| .bc ib_bool rfl rfl rfl <| .asg rfl <| .nil) rfl ?_
  by_cases c5 : (a1 == a3) = true
  · replace h := ite_pos_some c5 h
    refine .cTb rfl c5 ?_
    obtain ⟨v6, e7, h⟩ := bind_some h
    obtain ⟨⟨v8, v9⟩, e10, h⟩ := bind_some h
    refine .regD hmix (.fa rfl f_exact_whole_0 <| .ldE1 (D.bool a1) rfl rfl ly_bool rfl <| .fa rfl f_exact_whole_1 <| .ldE1 (natD a2) rfl rfl ly_exact_nat rfl <| .fa rfl f_exact_whole_1 <| .ldE1 (natD a4) rfl rfl ly_exact_nat rfl <| .callG (N_add e7) ⟨rfl, rfl, trivial⟩ trivial trivial <| .callG (C_wholeOf e10) ⟨rfl, rfl, trivial⟩ trivial trivial <| .stE ([D.bool v8, natD v9]) rfl rfl rfl ly_exact_whole rfl rfl rfl <| .nil) rfl (by kernel_rfl) ?_
    cases h
    refine .retG (fun _ _ hb => hb) rfl (.cons (.agg rfl rfl ly_exact_whole rfl) .nil) (.refl _) trivial trivial
  · replace h := ite_neg_some c5 h
    refine .cFb rfl c5 ?_
    obtain ⟨v11, e12, h⟩ := bind_some h
    refine .reg (.fa rfl f_exact_whole_1 <| .ldE1 (natD a2) rfl rfl ly_exact_nat rfl <| .fa rfl f_exact_whole_1 <| .ldE1 (natD a4) rfl rfl ly_exact_nat rfl <| .callG (N_cmp e12) ⟨rfl, rfl, trivial⟩ trivial trivial <| .cm rfl rfl rfl <| .asg rfl <| .nil) rfl ?_
    by_cases c13 : (decide (v11 ≥ 0)) = true
    · replace h := ite_pos_some c13 h
      refine .cTb rfl c13 ?_
      obtain ⟨v14, e15, h⟩ := bind_some h
      obtain ⟨⟨v16, v17⟩, e18, h⟩ := bind_some h
      refine .regD hmix (.fa rfl f_exact_whole_0 <| .ldE1 (D.bool a1) rfl rfl ly_bool rfl <| .fa rfl f_exact_whole_1 <| .ldE1 (natD a2) rfl rfl ly_exact_nat rfl <| .fa rfl f_exact_whole_1 <| .ldE1 (natD a4) rfl rfl ly_exact_nat rfl <| .callG (N_sub e15) ⟨rfl, rfl, trivial⟩ trivial trivial <| .callG (C_wholeOf e18) ⟨rfl, rfl, trivial⟩ trivial trivial <| .stE ([D.bool v16, natD v17]) rfl rfl rfl ly_exact_whole rfl rfl rfl <| .nil) rfl (by kernel_rfl) ?_
      cases h
      refine .retG (fun _ _ hb => hb) rfl (.cons (.agg rfl rfl ly_exact_whole rfl) .nil) (.refl _) trivial trivial
    · replace h := ite_neg_some c13 h
      refine .cFb rfl c13 ?_
      refine .skip (Ok.on ?_)
      obtain ⟨v19, e20, h⟩ := bind_some h
      obtain ⟨⟨v21, v22⟩, e23, h⟩ := bind_some h
      refine .regD hmix (.fa rfl f_exact_whole_0 <| .ldE1 (D.bool a3) rfl rfl ly_bool rfl <| .fa rfl f_exact_whole_1 <| .ldE1 (natD a4) rfl rfl ly_exact_nat rfl <| .fa rfl f_exact_whole_1 <| .ldE1 (natD a2) rfl rfl ly_exact_nat rfl <| .callG (N_sub e20) ⟨rfl, rfl, trivial⟩ trivial trivial <| .callG (C_wholeOf e23) ⟨rfl, rfl, trivial⟩ trivial trivial <| .stE ([D.bool v21, natD v22]) rfl rfl rfl ly_exact_whole rfl rfl rfl <| .nil) rfl (by kernel_rfl) ?_
      cases h
      refine .retG (fun _ _ hb => hb) rfl (.cons (.agg rfl rfl ly_exact_whole rfl) .nil) (.refl _) trivial trivial
def m_whole_times (a1 : Bool) (a2 : Nat) (a3 : Nat) : Option (Bool × Nat) := (n_mul a2 a3).bind fun v4 => (m_wholeOf a1 v4).bind fun (v6, v7) => some (v6, v7)
theorem C_whole_times {a1 : Bool} {a2 : Nat} {a3 : Nat} {r9 : Bool} {r10 : Nat} (h : m_whole_times a1 a2 a3 = some (r9, r10)) : CtrG PP 177 [] [D.agg ([D.bool a1, natD a2]), natD a3] [] (D.agg ([D.bool r9, natD r10])) := by
  unfold m_whole_times at h
  refine .of Go.Proofs.Tryz.func177 rfl (by kernel_rfl) rfl rfl rfl rfl rfl rfl (fun A w0 L b => ?_)
  show Ok PP _ [(0, D.agg ([D.bool a1, natD a2])), (1, natD a3)] [] _ _
  refine .reg (.bxA rfl rfl <| .alL ([D.bool false, natD 0]) z_exact_whole ⟨.refl _, nil_nat, trivial⟩ rfl <| .nil) rfl ?_
  obtain ⟨v4, e5, h⟩ := bind_some h
  obtain ⟨⟨v6, v7⟩, e8, h⟩ := bind_some h
  refine .regD hmix (.fa rfl f_exact_whole_0 <| .ldE1 (D.bool a1) rfl rfl ly_bool rfl <| .fa rfl f_exact_whole_1 <| .ldE1 (natD a2) rfl rfl ly_exact_nat rfl <| .mv rfl <| .callG (N_mul e5) ⟨rfl, rfl, trivial⟩ trivial trivial <| .callG (C_wholeOf e8) ⟨rfl, rfl, trivial⟩ trivial trivial <| .stE ([D.bool v6, natD v7]) rfl rfl rfl ly_exact_whole rfl rfl rfl <| .nil) rfl (by kernel_rfl) ?_
  cases h
  refine .retG (fun _ _ hb => hb) rfl (.cons (.agg rfl rfl ly_exact_whole rfl) .nil) (.refl _) trivial trivial
def m_whole_cmp (a1 : Bool) (a2 : Nat) (a3 : Bool) (a4 : Nat) : Option Int := (if (!(a1 == a3)) = true then (if a1 = true then some (-1) else some 1) else (if a1 = true then (n_cmp a4 a2).bind fun v8 => some v8 else (n_cmp a2 a4).bind fun v10 => some v10))
theorem C_whole_cmp {a1 : Bool} {a2 : Nat} {a3 : Bool} {a4 : Nat} {r12 : Int} (h : m_whole_cmp a1 a2 a3 a4 = some r12) : CtrG PP 178 [] [D.agg ([D.bool a1, natD a2]), D.agg ([D.bool a3, natD a4])] [] (D.int .i64 r12) := by
  unfold m_whole_cmp at h
  refine .of Go.Proofs.Tryz.func178 rfl (by kernel_rfl) rfl rfl rfl rfl rfl rfl (fun A w0 L b => ?_)
  show Ok PP _ [(0, D.agg ([D.bool a1, natD a2])), (1, D.agg ([D.bool a3, natD a4]))] [] _ _
  refine .reg (.bxA rfl rfl <| .bxA rfl rfl <| .asg rfl <| .nil) rfl ?_
  refine .sq ?_
  refine .block ?_
  by_cases c5 : (!(a1 == a3)) = true
  · replace h := ite_pos_some c5 h
    refine .reg (.fa rfl f_exact_whole_0 <| .ldE1 (D.bool a1) rfl rfl ly_bool rfl <| .fa rfl f_exact_whole_0 <| .ldE1 (D.bool a3) rfl rfl ly_bool rfl <| .bc ib_bool rfl rfl rfl <| .mv rfl <| .gYt rfl rfl rfl c5 <| .fa rfl f_exact_whole_0 <| .gYt rfl rfl rfl c5 <| .ldE1 (D.bool a1) rfl rfl ly_bool rfl <| .pkTb rfl c5 rfl <| .asg rfl <| .nil) rfl ?_
    by_cases c6 : a1 = true
    · replace h := ite_pos_some c6 h
      refine .cTb rfl c6 ?_
      refine .reg (.asg rfl <| .nil) rfl ?_
      cases h
      refine .retG (fun _ _ hb => hb) rfl (.cons (.tmp rfl) .nil) (.refl _) trivial trivial
    · replace h := ite_neg_some c6 h
      refine .cFb rfl c6 ?_
      refine .reg (.fa rfl f_exact_whole_0 <| .ldE1 (D.bool a1) rfl rfl ly_bool rfl <| .fa rfl f_exact_whole_0 <| .ldE1 (D.bool a3) rfl rfl ly_bool rfl <| .bc ib_bool rfl rfl rfl <| .asg rfl <| .nil) rfl ?_
      refine .cTb rfl c5 ?_
      refine .reg (.asg rfl <| .nil) rfl ?_
      cases h
      refine .retG (fun _ _ hb => hb) rfl (.cons (.tmp rfl) .nil) (.refl _) trivial trivial
  · replace h := ite_neg_some c5 h
    refine .reg (.fa rfl f_exact_whole_0 <| .ldE1 (D.bool a1) rfl rfl ly_bool rfl <| .fa rfl f_exact_whole_0 <| .ldE1 (D.bool a3) rfl rfl ly_bool rfl <| .bc ib_bool rfl rfl rfl <| .mv rfl <| .gNt rfl rfl rfl c5 <| .gNt rfl rfl rfl c5 <| .pkFb rfl c5 rfl <| .asg rfl <| .nil) rfl ?_
    refine .cFb rfl (by decide) ?_
    refine .reg (.fa rfl f_exact_whole_0 <| .ldE1 (D.bool a1) rfl rfl ly_bool rfl <| .fa rfl f_exact_whole_0 <| .ldE1 (D.bool a3) rfl rfl ly_bool rfl <| .bc ib_bool rfl rfl rfl <| .asg rfl <| .nil) rfl ?_
    refine .cFb rfl c5 ?_
    refine .reg (.fa rfl f_exact_whole_0 <| .ldE1 (D.bool a1) rfl rfl ly_bool rfl <| .asg rfl <| .nil) rfl ?_
    by_cases c7 : a1 = true
    · replace h := ite_pos_some c7 h
      refine .cTb rfl c7 ?_
      obtain ⟨v8, e9, h⟩ := bind_some h
      refine .reg (.fa rfl f_exact_whole_1 <| .ldE1 (natD a4) rfl rfl ly_exact_nat rfl <| .fa rfl f_exact_whole_1 <| .ldE1 (natD a2) rfl rfl ly_exact_nat rfl <| .callG (N_cmp e9) ⟨rfl, rfl, trivial⟩ trivial trivial <| .asg rfl <| .nil) rfl ?_
      cases h
      refine .retG (fun _ _ hb => hb) rfl (.cons (.tmp rfl) .nil) (.refl _) trivial trivial
    · replace h := ite_neg_some c7 h
      refine .cFb rfl c7 ?_
      refine .skip (Ok.on ?_)
      obtain ⟨v10, e11, h⟩ := bind_some h
      refine .reg (.fa rfl f_exact_whole_1 <| .ldE1 (natD a2) rfl rfl ly_exact_nat rfl <| .fa rfl f_exact_whole_1 <| .ldE1 (natD a4) rfl rfl ly_exact_nat rfl <| .callG (N_cmp e11) ⟨rfl, rfl, trivial⟩ trivial trivial <| .asg rfl <| .nil) rfl ?_
      cases h
      refine .retG (fun _ _ hb => hb) rfl (.cons (.tmp rfl) .nil) (.refl _) trivial trivial
def m_whole_floor (a1 : Bool) (a2 : Nat) (a3 : Nat) : Option (Bool × Nat) := (n_div a2 a3).bind fun (v4, v5) => ((if a1 = true then (if (decide (((digs v5).length : Int) > 0)) = true then (n_of 1).bind fun v11 => (n_add v4 v11).bind fun v13 => some (v13) else some (v4)) else some (v4))).bind fun v15 => (m_wholeOf a1 v15).bind fun (v16, v17) => some (v16, v17)
theorem C_whole_floor {a1 : Bool} {a2 : Nat} {a3 : Nat} {r19 : Bool} {r20 : Nat} (h : m_whole_floor a1 a2 a3 = some (r19, r20)) : CtrG PP 188 [] [D.agg ([D.bool a1, natD a2]), natD a3] [] (D.agg ([D.bool r19, natD r20])) := by
  unfold m_whole_floor at h
  refine .of Go.Proofs.Tryz.func188 rfl (by kernel_rfl) rfl rfl rfl rfl rfl rfl (fun A w0 L b => ?_)
  show Ok PP _ [(0, D.agg ([D.bool a1, natD a2])), (1, natD a3)] [] _ _
  refine .reg (.bxA rfl rfl <| .alL ([D.bool false, natD 0]) z_exact_whole ⟨.refl _, nil_nat, trivial⟩ rfl <| .nil) rfl ?_
  obtain ⟨⟨v4, v5⟩, e6, h⟩ := bind_some h
  refine .reg (.fa rfl f_exact_whole_1 <| .ldE1 (natD a2) rfl rfl ly_exact_nat rfl <| .mv rfl <| .callG (N_div e6) ⟨rfl, rfl, trivial⟩ trivial trivial <| .mv rfl <| .ext rfl rfl <| .ext rfl rfl <| .asg rfl <| .asg rfl <| .nil) rfl ?_
  obtain ⟨v15, hp8, h⟩ := bind_some h
  refine .cutX (fun i => v15 = i) (fun (i : Nat) => [(2, D.ref 2 0), (4, D.ref 4 0), (5, natD i)]) (fun (i : Nat) => [(2, Hp.box 26 ([D.bool a1, natD a2])), (4, Hp.box 26 ([D.bool false, natD 0]))]) ?_ ?_
  · have ho1 := h
    clear h
    have h := hp8
    clear hp8
    by_cases c9 : a1 = true
    · replace h := ite_pos_some c9 h
      refine .reg (.fa rfl f_exact_whole_0 <| .ldE1 (D.bool a1) rfl rfl ly_bool rfl <| .mv rfl <| .gYt rfl rfl rfl c9 <| .mv rfl <| .gYt rfl rfl rfl c9 <| .lnD rfl is_exact_nat <| .gYt rfl rfl rfl c9 <| .cm rfl rfl rfl <| .pkTb rfl c9 rfl <| .nil) rfl ?_
      by_cases c10 : (decide (((digs v5).length : Int) > 0)) = true
      · replace h := ite_pos_some c10 h
        refine .cTb rfl c10 ?_
        obtain ⟨v11, e12, h⟩ := bind_some h
        obtain ⟨v13, e14, h⟩ := bind_some h
        refine .region (.mv rfl <| .callG (N_of e12) ⟨rfl, trivial⟩ trivial trivial <| .callG (N_add e14) ⟨rfl, rfl, trivial⟩ trivial trivial <| .asg rfl <| .nil) rfl (fun _ _ hs => ⟨v13, (Option.some.inj h).symm, hs.sub ⟨⟨_, rfl, .refl _⟩, ⟨_, rfl, .refl _⟩, ⟨_, rfl, .refl _⟩, trivial⟩ ⟨⟨_, rfl, .refl _⟩, ⟨_, rfl, .refl _⟩, trivial⟩ rfl rfl⟩)
      · replace h := ite_neg_some c10 h
        refine .cFb rfl c10 ?_
        refine .skip (fun _ _ hs => ⟨v4, (Option.some.inj h).symm, hs.sub ⟨⟨_, rfl, .refl _⟩, ⟨_, rfl, .refl _⟩, ⟨_, rfl, .refl _⟩, trivial⟩ ⟨⟨_, rfl, .refl _⟩, ⟨_, rfl, .refl _⟩, trivial⟩ rfl rfl⟩)
    · replace h := ite_neg_some c9 h
      refine .reg (.fa rfl f_exact_whole_0 <| .ldE1 (D.bool a1) rfl rfl ly_bool rfl <| .mv rfl <| .gNt rfl rfl rfl c9 <| .gNt rfl rfl rfl c9 <| .gNt rfl rfl rfl c9 <| .pkFb rfl c9 rfl <| .nil) rfl ?_
      refine .cFb rfl (by decide) ?_
      refine .skip (fun _ _ hs => ⟨v4, (Option.some.inj h).symm, hs.sub ⟨⟨_, rfl, .refl _⟩, ⟨_, rfl, .refl _⟩, ⟨_, rfl, .refl _⟩, trivial⟩ ⟨⟨_, rfl, .refl _⟩, ⟨_, rfl, .refl _⟩, trivial⟩ rfl rfl⟩)
  · rintro _ rfl
    show Ok PP _ [(2, D.ref 2 0), (4, D.ref 4 0), (5, natD v15)] [(2, Hp.box 26 ([D.bool a1, natD a2])), (4, Hp.box 26 ([D.bool false, natD 0]))] _ _
    obtain ⟨⟨v16, v17⟩, e18, h⟩ := bind_some h
    refine .reg (.fa rfl f_exact_whole_0 <| .ldE1 (D.bool a1) rfl rfl ly_bool rfl <| .mv rfl <| .callG (C_wholeOf e18) ⟨rfl, rfl, trivial⟩ trivial trivial <| .stE ([D.bool v16, natD v17]) rfl rfl rfl ly_exact_whole rfl rfl rfl <| .nil) rfl ?_
    cases h
    refine .retG (fun _ _ hb => hb) rfl (.cons (.agg rfl rfl ly_exact_whole rfl) .nil) (.refl _) trivial trivial
def m_Q_den (a1 : Bool) (a2 : Nat) (a3 : Nat) : Option Nat := (n_of 1).bind fun v4 => (n_add a3 v4).bind fun v6 => some v6
theorem C_Q_den {a1 : Bool} {a2 : Nat} {a3 : Nat} {r8 : Nat} (h : m_Q_den a1 a2 a3 = some r8) : CtrG PP 168 [] [D.agg ([D.bool a1, natD a2, natD a3])] [] (natD r8) := by
  unfold m_Q_den at h
  refine .of Go.Proofs.Tryz.func168 rfl (by kernel_rfl) rfl rfl rfl rfl rfl rfl (fun A w0 L b => ?_)
  show Ok PP _ [(0, D.agg ([D.bool a1, natD a2, natD a3]))] [] _ _
  refine .reg (.bxA rfl rfl <| .asg rfl <| .nil) rfl ?_
  obtain ⟨v4, e5, h⟩ := bind_some h
  obtain ⟨v6, e7, h⟩ := bind_some h
  refine .regD hmix (.fa rfl f_exact_Q_1 <| .ldE1 (natD a3) rfl rfl ly_exact_nat rfl <| .callG (N_of e5) ⟨rfl, trivial⟩ trivial trivial <| .callG (N_add e7) ⟨rfl, rfl, trivial⟩ trivial trivial <| .asg rfl <| .nil) rfl (by kernel_rfl) ?_
  cases h
  refine .retG (fun _ _ hb => hb) rfl (.cons (.tmp rfl) .nil) (.refl _) trivial trivial
def m_quotient (a1 : Bool) (a2 : Nat) (a3 : Nat) : Option ((Bool × Nat) × Nat) := ((n_gcd a2 a3).bind fun v6 => (if (((digs v6).length : Int) != 1) = true then (n_div a2 v6).bind fun (v9, v10) => (n_div a3 v6).bind fun (v12, v13) => some ((v12, v9)) else (ix (digs v6) 0).bind fun v15 => (if ((v15 : Int) != 1) = true then (n_div a2 v6).bind fun (v18, v19) => (n_div a3 v6).bind fun (v21, v22) => some ((v21, v18)) else some ((a3, a2))))).bind fun (v24, v25) => (m_wholeOf a1 v25).bind fun (v26, v27) => (n_of 1).bind fun v29 => (n_sub v24 v29).bind fun v31 => some ((v26, v27), v31)
theorem C_quotient {a1 : Bool} {a2 : Nat} {a3 : Nat} {r33 : Bool} {r34 : Nat} {r35 : Nat} (h : m_quotient a1 a2 a3 = some ((r33, r34), r35)) : CtrG PP 151 [] [D.agg ([D.bool a1, natD a2]), natD a3] [] (D.agg ([D.bool r33, natD r34, natD r35])) := by
  unfold m_quotient at h
  refine .of Go.Proofs.Tryz.func151 rfl (by kernel_rfl) rfl rfl rfl rfl rfl rfl (fun A w0 L b => ?_)
  show Ok PP _ [(0, D.agg ([D.bool a1, natD a2])), (1, natD a3)] [] _ _
  refine .reg (.bxA rfl rfl <| .alL ([D.bool false, natD 0, natD 0]) z_exact_Q ⟨.refl _, nil_nat, nil_nat, trivial⟩ rfl <| .nil) rfl ?_
  obtain ⟨o4, hp5, h⟩ := bind_some h
  refine .cutX (fun i => o4 = i) (fun (i : Nat × Nat) => [(1, natD i.1), (2, D.ref 2 0), (4, D.ref 4 0)]) (fun (i : Nat × Nat) => [(2, Hp.box 26 ([D.bool a1, natD i.2])), (4, Hp.box 28 ([D.bool false, natD 0, natD 0]))]) ?_ ?_
  · have ho1 := h
    clear h
    have h := hp5
    clear hp5
    obtain ⟨v6, e7, h⟩ := bind_some h
    refine .reg (.fa rfl f_exact_whole_1 <| .ldE1 (natD a2) rfl rfl ly_exact_nat rfl <| .mv rfl <| .callG (N_gcd e7) ⟨rfl, rfl, trivial⟩ trivial trivial <| .asg rfl <| .nil) rfl ?_
    by_cases c8 : (((digs v6).length : Int) != 1) = true
    · replace h := ite_pos_some c8 h
      refine .reg (.mv rfl <| .lnD rfl is_exact_nat <| .cm rfl rfl rfl <| .mv rfl <| .gNf rfl rfl rfl c8 <| .gNf rfl rfl rfl c8 <| .gNf rfl rfl rfl c8 <| .gNf rfl rfl rfl c8 <| .pkTb rfl c8 rfl <| .nil) rfl ?_
      refine .cTb rfl rfl ?_
      obtain ⟨⟨v9, v10⟩, e11, h⟩ := bind_some h
      refine .reg (.fa rfl f_exact_whole_1 <| .ldE1 (natD a2) rfl rfl ly_exact_nat rfl <| .mv rfl <| .callG (N_div e11) ⟨rfl, rfl, trivial⟩ trivial trivial <| .mv rfl <| .ext rfl rfl <| .ext rfl rfl <| .fa rfl f_exact_whole_1 <| .stE1 ([D.bool a1, natD v9]) rfl rfl rfl ly_exact_nat rfl rfl rfl <| .nil) rfl ?_
      obtain ⟨⟨v12, v13⟩, e14, h⟩ := bind_some h
      refine .region (.mv rfl <| .mv rfl <| .callG (N_div e14) ⟨rfl, rfl, trivial⟩ trivial trivial <| .mv rfl <| .ext rfl rfl <| .ext rfl rfl <| .asg rfl <| .nil) rfl (fun _ _ hs => ⟨(v12, v9), (Option.some.inj h).symm, hs.sub ⟨⟨_, rfl, .refl _⟩, ⟨_, rfl, .refl _⟩, ⟨_, rfl, .refl _⟩, trivial⟩ ⟨⟨_, rfl, .refl _⟩, ⟨_, rfl, .refl _⟩, trivial⟩ rfl rfl⟩)
    · replace h := ite_neg_some c8 h
      obtain ⟨v15, e16, h⟩ := bind_some h
      refine .reg (.mv rfl <| .lnD rfl is_exact_nat <| .cm rfl rfl rfl <| .mv rfl <| .gYf rfl rfl rfl c8 <| .mv rfl <| .gYf rfl rfl rfl c8 <| .ixD rfl rfl se_exact_nat e16 <| .gYf rfl rfl rfl c8 <| .lp1 rfl ly_uint32 <| .gYf rfl rfl rfl c8 <| .cm rfl rfl rfl <| .pkFb rfl c8 rfl <| .nil) rfl ?_
      by_cases c17 : ((v15 : Int) != 1) = true
      · replace h := ite_pos_some c17 h
        refine .cTb rfl c17 ?_
        obtain ⟨⟨v18, v19⟩, e20, h⟩ := bind_some h
        refine .reg (.fa rfl f_exact_whole_1 <| .ldE1 (natD a2) rfl rfl ly_exact_nat rfl <| .mv rfl <| .callG (N_div e20) ⟨rfl, rfl, trivial⟩ trivial trivial <| .mv rfl <| .ext rfl rfl <| .ext rfl rfl <| .fa rfl f_exact_whole_1 <| .stE1 ([D.bool a1, natD v18]) rfl rfl rfl ly_exact_nat rfl rfl rfl <| .nil) rfl ?_
        obtain ⟨⟨v21, v22⟩, e23, h⟩ := bind_some h
        refine .region (.mv rfl <| .mv rfl <| .callG (N_div e23) ⟨rfl, rfl, trivial⟩ trivial trivial <| .mv rfl <| .ext rfl rfl <| .ext rfl rfl <| .asg rfl <| .nil) rfl (fun _ _ hs => ⟨(v21, v18), (Option.some.inj h).symm, hs.sub ⟨⟨_, rfl, .refl _⟩, ⟨_, rfl, .refl _⟩, ⟨_, rfl, .refl _⟩, trivial⟩ ⟨⟨_, rfl, .refl _⟩, ⟨_, rfl, .refl _⟩, trivial⟩ rfl rfl⟩)
      · replace h := ite_neg_some c17 h
        refine .cFb rfl c17 ?_
        refine .skip (fun _ _ hs => ⟨(a3, a2), (Option.some.inj h).symm, hs.sub ⟨⟨_, rfl, .refl _⟩, ⟨_, rfl, .refl _⟩, ⟨_, rfl, .refl _⟩, trivial⟩ ⟨⟨_, rfl, .refl _⟩, ⟨_, rfl, .refl _⟩, trivial⟩ rfl rfl⟩)
  · rintro ⟨v24, v25⟩ rfl
    show Ok PP _ [(1, natD v24), (2, D.ref 2 0), (4, D.ref 4 0)] [(2, Hp.box 26 ([D.bool a1, natD v25])), (4, Hp.box 28 ([D.bool false, natD 0, natD 0]))] _ _
    obtain ⟨⟨v26, v27⟩, e28, h⟩ := bind_some h
    obtain ⟨v29, e30, h⟩ := bind_some h
    obtain ⟨v31, e32, h⟩ := bind_some h
    refine .reg (.fa rfl f_exact_whole_0 <| .ldE1 (D.bool a1) rfl rfl ly_bool rfl <| .fa rfl f_exact_whole_1 <| .ldE1 (natD v25) rfl rfl ly_exact_nat rfl <| .callG (C_wholeOf e28) ⟨rfl, rfl, trivial⟩ trivial trivial <| .mv rfl <| .callG (N_of e30) ⟨rfl, trivial⟩ trivial trivial <| .callG (N_sub e32) ⟨rfl, rfl, trivial⟩ trivial trivial <| .bdQ ([D.bool v26, natD v27, natD v31]) [(0, _, D.agg ([D.bool v26, natD v27]), [D.bool v26, natD v27]), (2, _, natD v31, [natD v31])] z_exact_Q pl_exact_Q ⟨rfl, rfl, .agg _, rfl, rfl, rfl, .one rfl, rfl, trivial⟩ ⟨rfl, rfl, trivial⟩ ⟨.refl _, .refl _, .refl _, trivial⟩ <| .stE ([D.bool v26, natD v27, natD v31]) rfl rfl rfl ly_exact_Q rfl rfl rfl <| .nil) rfl ?_
    cases h
    refine .retG (fun _ _ hb => hb) rfl (.cons (.agg rfl rfl ly_exact_Q rfl) .nil) (.refl _) trivial trivial
def m_of (a1 : Bool) (a2 : Nat) : Option ((Bool × Nat) × Nat) := some ((a1, a2), 0)
theorem C_of {a1 : Bool} {a2 : Nat} {r3 : Bool} {r4 : Nat} {r5 : Nat} (h : m_of a1 a2 = some ((r3, r4), r5)) : CtrG PP 169 [] [D.agg ([D.bool a1, natD a2])] [] (D.agg ([D.bool r3, natD r4, natD r5])) := by
  unfold m_of at h
  refine .of Go.Proofs.Tryz.func169 rfl (by kernel_rfl) rfl rfl rfl rfl rfl rfl (fun A w0 L b => ?_)
  show Ok PP _ [(0, D.agg ([D.bool a1, natD a2]))] [] _ _
  refine .reg (.bxA rfl rfl <| .alL ([D.bool false, natD 0, natD 0]) z_exact_Q ⟨.refl _, nil_nat, nil_nat, trivial⟩ rfl <| .nil) rfl ?_
  refine .reg (.ldE ([D.bool a1, natD a2]) rfl rfl ly_exact_whole rfl rfl <| .bdQ ([D.bool a1, natD a2, natD 0]) [(0, _, D.agg ([D.bool a1, natD a2]), [D.bool a1, natD a2])] z_exact_Q pl_exact_Q ⟨rfl, rfl, .agg _, rfl, trivial⟩ ⟨rfl, trivial⟩ ⟨.refl _, .refl _, nil_nat, trivial⟩ <| .stE ([D.bool a1, natD a2, natD 0]) rfl rfl rfl ly_exact_Q rfl rfl rfl <| .nil) rfl ?_
  cases h
  refine .retG (fun _ _ hb => hb) rfl (.cons (.agg rfl rfl ly_exact_Q rfl) .nil) (.refl _) trivial trivial
def m_magnitude (a1 : Int) : Option Nat := (if (decide (a1 < 0)) = true then (n_of (IntKind.u64.wrap (0 - (IntKind.u64.wrap a1)))).bind fun v3 => some v3 else (n_of (IntKind.u64.wrap a1)).bind fun v5 => some v5)
theorem C_magnitude {a1 : Int} {r7 : Nat} (h : m_magnitude a1 = some r7) : CtrG PP 179 [] [D.int .i64 a1] [] (natD r7) := by
  unfold m_magnitude at h
  refine .of Go.Proofs.Tryz.func179 rfl (by kernel_rfl) rfl rfl rfl rfl rfl rfl (fun A w0 L b => ?_)
  show Ok PP _ [(0, D.int .i64 a1)] [] _ _
  refine .reg (.asg rfl <| .nil) rfl ?_
  refine .sq ?_
  refine .reg (.mv rfl <| .cm rfl rfl rfl <| .nil) rfl ?_
  by_cases c2 : (decide (a1 < 0)) = true
  · replace h := ite_pos_some c2 h
    refine .cTb rfl c2 ?_
    obtain ⟨v3, e4, h⟩ := bind_some h
    refine .reg (.mv rfl <| .cv rfl cv_int64_uint64 rfl <| .neg rfl rfl <| .callG (N_of e4) ⟨rfl, trivial⟩ trivial trivial <| .asg rfl <| .nil) rfl ?_
    cases h
    refine .retG (fun _ _ hb => hb) rfl (.cons (.tmp rfl) .nil) (.refl _) trivial trivial
  · replace h := ite_neg_some c2 h
    refine .cFb rfl c2 ?_
    refine .skip (Ok.on ?_)
    obtain ⟨v5, e6, h⟩ := bind_some h
    refine .reg (.mv rfl <| .cv rfl cv_int64_uint64 rfl <| .callG (N_of e6) ⟨rfl, trivial⟩ trivial trivial <| .asg rfl <| .nil) rfl ?_
    cases h
    refine .retG (fun _ _ hb => hb) rfl (.cons (.tmp rfl) .nil) (.refl _) trivial trivial
def m_Int (a1 : Int) : Option ((Bool × Nat) × Nat) := (m_magnitude a1).bind fun v2 => (m_wholeOf (decide (a1 < 0)) v2).bind fun (v4, v5) => (m_of v4 v5).bind fun ((v7, v8), v9) => some ((v7, v8), v9)
theorem C_Int {a1 : Int} {r11 : Bool} {r12 : Nat} {r13 : Nat} (h : m_Int a1 = some ((r11, r12), r13)) : CtrG PP 40 [] [D.int .i64 a1] [] (D.agg ([D.bool r11, natD r12, natD r13])) := by
  unfold m_Int at h
  refine .of Go.Proofs.Tryz.func40 rfl (by kernel_rfl) rfl rfl rfl rfl rfl rfl (fun A w0 L b => ?_)
  show Ok PP _ [(0, D.int .i64 a1)] [] _ _
  refine .reg (.alL ([D.bool false, natD 0, natD 0]) z_exact_Q ⟨.refl _, nil_nat, nil_nat, trivial⟩ rfl <| .nil) rfl ?_
  obtain ⟨v2, e3, h⟩ := bind_some h
  obtain ⟨⟨v4, v5⟩, e6, h⟩ := bind_some h
  obtain ⟨⟨⟨v7, v8⟩, v9⟩, e10, h⟩ := bind_some h
  refine .reg (.mv rfl <| .cm rfl rfl rfl <| .mv rfl <| .callG (C_magnitude e3) ⟨rfl, trivial⟩ trivial trivial <| .callG (C_wholeOf e6) ⟨rfl, rfl, trivial⟩ trivial trivial <| .callG (C_of e10) ⟨rfl, trivial⟩ trivial trivial <| .stE ([D.bool v7, natD v8, natD v9]) rfl rfl rfl ly_exact_Q rfl rfl rfl <| .nil) rfl ?_
  cases h
  refine .retG (fun _ _ hb => hb) rfl (.cons (.agg rfl rfl ly_exact_Q rfl) .nil) (.refl _) trivial trivial
def m_Of (a1 : Int) (a2 : Int) : Option (((Bool × Nat) × Nat) × Int) := (if (a2 == 0) = true then some (((false, 0), 0), 9) else (m_magnitude a1).bind fun v4 => (m_wholeOf (!((decide (a1 < 0)) == (decide (a2 < 0)))) v4).bind fun (v6, v7) => (m_magnitude a2).bind fun v9 => (m_quotient v6 v7 v9).bind fun ((v11, v12), v13) => some (((v11, v12), v13), 0))
theorem C_Of {a1 : Int} {a2 : Int} {r15 : Bool} {r16 : Nat} {r17 : Nat} {r18 : Int} (h : m_Of a1 a2 = some (((r15, r16), r17), r18)) : CtrG PP 36 [] [D.int .i64 a1, D.int .i64 a2] [] (D.tup [D.agg ([D.bool r15, natD r16, natD r17]), D.int .i64 r18]) := by
  unfold m_Of at h
  refine .of Go.Proofs.Tryz.func36 rfl (by kernel_rfl) rfl rfl rfl rfl rfl rfl (fun A w0 L b => ?_)
  show Ok PP _ [(0, D.int .i64 a1), (1, D.int .i64 a2)] [] _ _
  refine .reg (.alL ([D.bool false, natD 0, natD 0]) z_exact_Q ⟨.refl _, nil_nat, nil_nat, trivial⟩ rfl <| .asg rfl <| .nil) rfl ?_
  refine .sq ?_
  refine .reg (.mv rfl <| .cm rfl rfl rfl <| .nil) rfl ?_
  by_cases c3 : (a2 == 0) = true
  · replace h := ite_pos_some c3 h
    refine .cTb rfl c3 ?_
    refine .reg (.bdQ ([D.bool false, natD 0, natD 0]) [] z_exact_Q pl_exact_Q trivial trivial ⟨.refl _, nil_nat, nil_nat, trivial⟩ <| .stE ([D.bool false, natD 0, natD 0]) rfl rfl rfl ly_exact_Q rfl rfl rfl <| .asg rfl <| .nil) rfl ?_
    cases h
    refine .retG (fun _ _ hb => hb) rfl (.cons (.agg rfl rfl ly_exact_Q rfl) (.cons (.tmp rfl) .nil)) (.refl _) trivial trivial
  · replace h := ite_neg_some c3 h
    refine .cFb rfl c3 ?_
    refine .skip (Ok.on ?_)
    obtain ⟨v4, e5, h⟩ := bind_some h
    obtain ⟨⟨v6, v7⟩, e8, h⟩ := bind_some h
    obtain ⟨v9, e10, h⟩ := bind_some h
    obtain ⟨⟨⟨v11, v12⟩, v13⟩, e14, h⟩ := bind_some h
    refine .reg (.mv rfl <| .cm rfl rfl rfl <| .mv rfl <| .cm rfl rfl rfl <| .bc ib_bool rfl rfl rfl <| .mv rfl <| .callG (C_magnitude e5) ⟨rfl, trivial⟩ trivial trivial <| .callG (C_wholeOf e8) ⟨rfl, rfl, trivial⟩ trivial trivial <| .mv rfl <| .callG (C_magnitude e10) ⟨rfl, trivial⟩ trivial trivial <| .callG (C_quotient e14) ⟨rfl, rfl, trivial⟩ trivial trivial <| .stE ([D.bool v11, natD v12, natD v13]) rfl rfl rfl ly_exact_Q rfl rfl rfl <| .asg rfl <| .nil) rfl ?_
    cases h
    refine .retG (fun _ _ hb => hb) rfl (.cons (.agg rfl rfl ly_exact_Q rfl) (.cons (.tmp rfl) .nil)) (.refl _) trivial trivial
def m_Q_Text (a1 : Bool) (a2 : Nat) (a3 : Nat) : Option (List UInt8) := (n_dec a2).bind fun v4 => ((if a1 = true then must (([45] : List UInt8).length + v4.length ≤ 9223372036854775807) (some ((([45] : List UInt8) ++ v4))) else some (v4))).bind fun v10 => ((if (decide (((digs a3).length : Int) > 0)) = true then (m_Q_den a1 a2 a3).bind fun v14 => (n_dec v14).bind fun v16 => must (([47] : List UInt8).length + v16.length ≤ 9223372036854775807) (must (v10.length + (([47] : List UInt8) ++ v16).length ≤ 9223372036854775807) (some ((v10 ++ (([47] : List UInt8) ++ v16))))) else some (v10))).bind fun v20 => some v20
theorem C_Q_Text {a1 : Bool} {a2 : Nat} {a3 : Nat} {r21 : List UInt8} (h : m_Q_Text a1 a2 a3 = some r21) : CtrG PP 33 [] [D.agg ([D.bool a1, natD a2, natD a3])] [] (strD r21) := by
  unfold m_Q_Text at h
  refine .of Go.Proofs.Tryz.func33 rfl (by kernel_rfl) rfl rfl rfl rfl rfl rfl (fun A w0 L b => ?_)
  show Ok PP _ [(0, D.agg ([D.bool a1, natD a2, natD a3]))] [] _ _
  refine .reg (.bxA rfl rfl <| .asg rfl <| .nil) rfl ?_
  obtain ⟨v4, e5, h⟩ := bind_some h
  refine .reg (.fa rfl f_exact_Q_0 <| .fa rfl f_exact_whole_1 <| .ldE1 (natD a2) rfl rfl ly_exact_nat rfl <| .callG (N_dec e5) ⟨rfl, trivial⟩ trivial trivial <| .asg rfl <| .nil) rfl ?_
  obtain ⟨v10, hp7, h⟩ := bind_some h
  refine .cutX (fun i => v10 = i) (fun (i : (List UInt8)) => [(1, D.ref 1 0), (3, strD i)]) (fun (i : (List UInt8)) => [(1, Hp.box 28 ([D.bool a1, natD a2, natD a3]))]) ?_ ?_
  · have ho1 := h
    clear h
    have h := hp7
    clear hp7
    refine .reg (.fa rfl f_exact_Q_0 <| .fa rfl f_exact_whole_0 <| .ldE1 (D.bool a1) rfl rfl ly_bool rfl <| .nil) rfl ?_
    by_cases c8 : a1 = true
    · replace h := ite_pos_some c8 h
      refine .cTb rfl c8 ?_
      obtain ⟨k9, h⟩ := must_some h
      refine .region (.mv rfl <| .tcat rfl rfl k9 <| .asg rfl <| .nil) rfl (fun _ _ hs => ⟨(([45] : List UInt8) ++ v4), (Option.some.inj h).symm, hs.sub ⟨⟨_, rfl, .refl _⟩, ⟨_, rfl, .refl _⟩, trivial⟩ ⟨⟨_, rfl, .refl _⟩, trivial⟩ rfl rfl⟩)
    · replace h := ite_neg_some c8 h
      refine .cFb rfl c8 ?_
      refine .skip (fun _ _ hs => ⟨v4, (Option.some.inj h).symm, hs.sub ⟨⟨_, rfl, .refl _⟩, ⟨_, rfl, .refl _⟩, trivial⟩ ⟨⟨_, rfl, .refl _⟩, trivial⟩ rfl rfl⟩)
  · rintro _ rfl
    show Ok PP _ [(1, D.ref 1 0), (3, strD v10)] [(1, Hp.box 28 ([D.bool a1, natD a2, natD a3]))] _ _
    obtain ⟨v20, hp12, h⟩ := bind_some h
    refine .cutX (fun i => v20 = i) (fun (i : (List UInt8)) => [(3, strD i)]) (fun (i : (List UInt8)) => []) ?_ ?_
    · have ho1 := h
      clear h
      have h := hp12
      clear hp12
      refine .reg (.fa rfl f_exact_Q_1 <| .ldE1 (natD a3) rfl rfl ly_exact_nat rfl <| .lnD rfl is_exact_nat <| .cm rfl rfl rfl <| .nil) rfl ?_
      by_cases c13 : (decide (((digs a3).length : Int) > 0)) = true
      · replace h := ite_pos_some c13 h
        refine .cTb rfl c13 ?_
        obtain ⟨v14, e15, h⟩ := bind_some h
        obtain ⟨v16, e17, h⟩ := bind_some h
        obtain ⟨k18, h⟩ := must_some h
        obtain ⟨k19, h⟩ := must_some h
        refine .region (.mv rfl <| .ldE ([D.bool a1, natD a2, natD a3]) rfl rfl ly_exact_Q rfl rfl <| .callG (C_Q_den e15) ⟨rfl, trivial⟩ trivial trivial <| .callG (N_dec e17) ⟨rfl, trivial⟩ trivial trivial <| .tcat rfl rfl k18 <| .tcat rfl rfl k19 <| .asg rfl <| .nil) rfl (fun _ _ hs => ⟨(v10 ++ (([47] : List UInt8) ++ v16)), (Option.some.inj h).symm, hs.sub ⟨⟨_, rfl, .refl _⟩, trivial⟩ trivial rfl rfl⟩)
      · replace h := ite_neg_some c13 h
        refine .cFb rfl c13 ?_
        refine .skip (fun _ _ hs => ⟨v10, (Option.some.inj h).symm, hs.sub ⟨⟨_, rfl, .refl _⟩, trivial⟩ trivial rfl rfl⟩)
    · rintro _ rfl
      show Ok PP _ [(3, strD v20)] [] _ _
      refine .reg (.mv rfl <| .asg rfl <| .nil) rfl ?_
      cases h
      refine .retG (fun _ _ hb => hb) rfl (.cons (.tmp rfl) .nil) (.refl _) trivial trivial
def m_Q_Add (a1 : Bool) (a2 : Nat) (a3 : Nat) (a4 : Bool) (a5 : Nat) (a6 : Nat) : Option ((Bool × Nat) × Nat) := (m_Q_den a1 a2 a3).bind fun v7 => (m_Q_den a4 a5 a6).bind fun v9 => (m_whole_times a1 a2 v9).bind fun (v11, v12) => (m_whole_times a4 a5 v7).bind fun (v14, v15) => (m_whole_add v11 v12 v14 v15).bind fun (v17, v18) => (n_mul v7 v9).bind fun v20 => (m_quotient v17 v18 v20).bind fun ((v22, v23), v24) => some ((v22, v23), v24)
theorem C_Q_Add {a1 : Bool} {a2 : Nat} {a3 : Nat} {a4 : Bool} {a5 : Nat} {a6 : Nat} {r26 : Bool} {r27 : Nat} {r28 : Nat} (h : m_Q_Add a1 a2 a3 a4 a5 a6 = some ((r26, r27), r28)) : CtrG PP 42 [] [D.agg ([D.bool a1, natD a2, natD a3]), D.agg ([D.bool a4, natD a5, natD a6])] [] (D.agg ([D.bool r26, natD r27, natD r28])) := by
  unfold m_Q_Add at h
  refine .of Go.Proofs.Tryz.func42 rfl (by kernel_rfl) rfl rfl rfl rfl rfl rfl (fun A w0 L b => ?_)
  show Ok PP _ [(0, D.agg ([D.bool a1, natD a2, natD a3])), (1, D.agg ([D.bool a4, natD a5, natD a6]))] [] _ _
  refine .reg (.bxA rfl rfl <| .bxA rfl rfl <| .alL ([D.bool false, natD 0, natD 0]) z_exact_Q ⟨.refl _, nil_nat, nil_nat, trivial⟩ rfl <| .nil) rfl ?_
  obtain ⟨v7, e8, h⟩ := bind_some h
  obtain ⟨v9, e10, h⟩ := bind_some h
  refine .regD hmix (.ldE ([D.bool a1, natD a2, natD a3]) rfl rfl ly_exact_Q rfl rfl <| .callG (C_Q_den e8) ⟨rfl, trivial⟩ trivial trivial <| .ldE ([D.bool a4, natD a5, natD a6]) rfl rfl ly_exact_Q rfl rfl <| .callG (C_Q_den e10) ⟨rfl, trivial⟩ trivial trivial <| .asg rfl <| .asg rfl <| .nil) rfl (by kernel_rfl) ?_
  obtain ⟨⟨v11, v12⟩, e13, h⟩ := bind_some h
  obtain ⟨⟨v14, v15⟩, e16, h⟩ := bind_some h
  obtain ⟨⟨v17, v18⟩, e19, h⟩ := bind_some h
  obtain ⟨v20, e21, h⟩ := bind_some h
  obtain ⟨⟨⟨v22, v23⟩, v24⟩, e25, h⟩ := bind_some h
  refine .regD hmix (.fa rfl f_exact_Q_0 <| .ldE ([D.bool a1, natD a2]) rfl rfl ly_exact_whole rfl rfl <| .mv rfl <| .callG (C_whole_times e13) ⟨rfl, rfl, trivial⟩ trivial trivial <| .fa rfl f_exact_Q_0 <| .ldE ([D.bool a4, natD a5]) rfl rfl ly_exact_whole rfl rfl <| .mv rfl <| .callG (C_whole_times e16) ⟨rfl, rfl, trivial⟩ trivial trivial <| .callG (C_whole_add e19) ⟨rfl, rfl, trivial⟩ trivial trivial <| .mv rfl <| .mv rfl <| .callG (N_mul e21) ⟨rfl, rfl, trivial⟩ trivial trivial <| .callG (C_quotient e25) ⟨rfl, rfl, trivial⟩ trivial trivial <| .stE ([D.bool v22, natD v23, natD v24]) rfl rfl rfl ly_exact_Q rfl rfl rfl <| .nil) rfl (by kernel_rfl) ?_
  cases h
  refine .retG (fun _ _ hb => hb) rfl (.cons (.agg rfl rfl ly_exact_Q rfl) .nil) (.refl _) trivial trivial
def m_Q_Neg (a1 : Bool) (a2 : Nat) (a3 : Nat) : Option ((Bool × Nat) × Nat) := (m_wholeOf (!a1) a2).bind fun (v4, v5) => some ((v4, v5), a3)
theorem C_Q_Neg {a1 : Bool} {a2 : Nat} {a3 : Nat} {r7 : Bool} {r8 : Nat} {r9 : Nat} (h : m_Q_Neg a1 a2 a3 = some ((r7, r8), r9)) : CtrG PP 48 [] [D.agg ([D.bool a1, natD a2, natD a3])] [] (D.agg ([D.bool r7, natD r8, natD r9])) := by
  unfold m_Q_Neg at h
  refine .of Go.Proofs.Tryz.func48 rfl (by kernel_rfl) rfl rfl rfl rfl rfl rfl (fun A w0 L b => ?_)
  show Ok PP _ [(0, D.agg ([D.bool a1, natD a2, natD a3]))] [] _ _
  refine .reg (.bxA rfl rfl <| .alL ([D.bool false, natD 0, natD 0]) z_exact_Q ⟨.refl _, nil_nat, nil_nat, trivial⟩ rfl <| .nil) rfl ?_
  obtain ⟨⟨v4, v5⟩, e6, h⟩ := bind_some h
  refine .regD hmix (.fa rfl f_exact_Q_0 <| .fa rfl f_exact_whole_0 <| .ldE1 (D.bool a1) rfl rfl ly_bool rfl <| .not rfl <| .fa rfl f_exact_Q_0 <| .fa rfl f_exact_whole_1 <| .ldE1 (natD a2) rfl rfl ly_exact_nat rfl <| .callG (C_wholeOf e6) ⟨rfl, rfl, trivial⟩ trivial trivial <| .fa rfl f_exact_Q_1 <| .ldE1 (natD a3) rfl rfl ly_exact_nat rfl <| .bdQ ([D.bool v4, natD v5, natD a3]) [(0, _, D.agg ([D.bool v4, natD v5]), [D.bool v4, natD v5]), (2, _, natD a3, [natD a3])] z_exact_Q pl_exact_Q ⟨rfl, rfl, .agg _, rfl, rfl, rfl, .one rfl, rfl, trivial⟩ ⟨rfl, rfl, trivial⟩ ⟨.refl _, .refl _, .refl _, trivial⟩ <| .stE ([D.bool v4, natD v5, natD a3]) rfl rfl rfl ly_exact_Q rfl rfl rfl <| .nil) rfl (by kernel_rfl) ?_
  cases h
  refine .retG (fun _ _ hb => hb) rfl (.cons (.agg rfl rfl ly_exact_Q rfl) .nil) (.refl _) trivial trivial
def m_Q_Sub (a1 : Bool) (a2 : Nat) (a3 : Nat) (a4 : Bool) (a5 : Nat) (a6 : Nat) : Option ((Bool × Nat) × Nat) := (m_Q_Neg a4 a5 a6).bind fun ((v7, v8), v9) => (m_Q_Add a1 a2 a3 v7 v8 v9).bind fun ((v11, v12), v13) => some ((v11, v12), v13)
theorem C_Q_Sub {a1 : Bool} {a2 : Nat} {a3 : Nat} {a4 : Bool} {a5 : Nat} {a6 : Nat} {r15 : Bool} {r16 : Nat} {r17 : Nat} (h : m_Q_Sub a1 a2 a3 a4 a5 a6 = some ((r15, r16), r17)) : CtrG PP 44 [] [D.agg ([D.bool a1, natD a2, natD a3]), D.agg ([D.bool a4, natD a5, natD a6])] [] (D.agg ([D.bool r15, natD r16, natD r17])) := by
  unfold m_Q_Sub at h
  refine .of Go.Proofs.Tryz.func44 rfl (by kernel_rfl) rfl rfl rfl rfl rfl rfl (fun A w0 L b => ?_)
  show Ok PP _ [(0, D.agg ([D.bool a1, natD a2, natD a3])), (1, D.agg ([D.bool a4, natD a5, natD a6]))] [] _ _
  refine .reg (.bxA rfl rfl <| .bxA rfl rfl <| .alL ([D.bool false, natD 0, natD 0]) z_exact_Q ⟨.refl _, nil_nat, nil_nat, trivial⟩ rfl <| .nil) rfl ?_
  obtain ⟨⟨⟨v7, v8⟩, v9⟩, e10, h⟩ := bind_some h
  obtain ⟨⟨⟨v11, v12⟩, v13⟩, e14, h⟩ := bind_some h
  refine .regD hmix (.ldE ([D.bool a1, natD a2, natD a3]) rfl rfl ly_exact_Q rfl rfl <| .ldE ([D.bool a4, natD a5, natD a6]) rfl rfl ly_exact_Q rfl rfl <| .callG (C_Q_Neg e10) ⟨rfl, trivial⟩ trivial trivial <| .callG (C_Q_Add e14) ⟨rfl, rfl, trivial⟩ trivial trivial <| .stE ([D.bool v11, natD v12, natD v13]) rfl rfl rfl ly_exact_Q rfl rfl rfl <| .nil) rfl (by kernel_rfl) ?_
  cases h
  refine .retG (fun _ _ hb => hb) rfl (.cons (.agg rfl rfl ly_exact_Q rfl) .nil) (.refl _) trivial trivial
def m_Q_Mul (a1 : Bool) (a2 : Nat) (a3 : Nat) (a4 : Bool) (a5 : Nat) (a6 : Nat) : Option ((Bool × Nat) × Nat) := (n_mul a2 a5).bind fun v7 => (m_wholeOf (!(a1 == a4)) v7).bind fun (v9, v10) => (m_Q_den a1 a2 a3).bind fun v12 => (m_Q_den a4 a5 a6).bind fun v14 => (n_mul v12 v14).bind fun v16 => (m_quotient v9 v10 v16).bind fun ((v18, v19), v20) => some ((v18, v19), v20)
theorem C_Q_Mul {a1 : Bool} {a2 : Nat} {a3 : Nat} {a4 : Bool} {a5 : Nat} {a6 : Nat} {r22 : Bool} {r23 : Nat} {r24 : Nat} (h : m_Q_Mul a1 a2 a3 a4 a5 a6 = some ((r22, r23), r24)) : CtrG PP 46 [] [D.agg ([D.bool a1, natD a2, natD a3]), D.agg ([D.bool a4, natD a5, natD a6])] [] (D.agg ([D.bool r22, natD r23, natD r24])) := by
  unfold m_Q_Mul at h
  refine .of Go.Proofs.Tryz.func46 rfl (by kernel_rfl) rfl rfl rfl rfl rfl rfl (fun A w0 L b => ?_)
  show Ok PP _ [(0, D.agg ([D.bool a1, natD a2, natD a3])), (1, D.agg ([D.bool a4, natD a5, natD a6]))] [] _ _
  refine .reg (.bxA rfl rfl <| .bxA rfl rfl <| .alL ([D.bool false, natD 0, natD 0]) z_exact_Q ⟨.refl _, nil_nat, nil_nat, trivial⟩ rfl <| .nil) rfl ?_
  obtain ⟨v7, e8, h⟩ := bind_some h
  obtain ⟨⟨v9, v10⟩, e11, h⟩ := bind_some h
  obtain ⟨v12, e13, h⟩ := bind_some h
  obtain ⟨v14, e15, h⟩ := bind_some h
  obtain ⟨v16, e17, h⟩ := bind_some h
  obtain ⟨⟨⟨v18, v19⟩, v20⟩, e21, h⟩ := bind_some h
  refine .regD hmix (.fa rfl f_exact_Q_0 <| .fa rfl f_exact_whole_0 <| .ldE1 (D.bool a1) rfl rfl ly_bool rfl <| .fa rfl f_exact_Q_0 <| .fa rfl f_exact_whole_0 <| .ldE1 (D.bool a4) rfl rfl ly_bool rfl <| .bc ib_bool rfl rfl rfl <| .fa rfl f_exact_Q_0 <| .fa rfl f_exact_whole_1 <| .ldE1 (natD a2) rfl rfl ly_exact_nat rfl <| .fa rfl f_exact_Q_0 <| .fa rfl f_exact_whole_1 <| .ldE1 (natD a5) rfl rfl ly_exact_nat rfl <| .callG (N_mul e8) ⟨rfl, rfl, trivial⟩ trivial trivial <| .callG (C_wholeOf e11) ⟨rfl, rfl, trivial⟩ trivial trivial <| .ldE ([D.bool a1, natD a2, natD a3]) rfl rfl ly_exact_Q rfl rfl <| .callG (C_Q_den e13) ⟨rfl, trivial⟩ trivial trivial <| .ldE ([D.bool a4, natD a5, natD a6]) rfl rfl ly_exact_Q rfl rfl <| .callG (C_Q_den e15) ⟨rfl, trivial⟩ trivial trivial <| .callG (N_mul e17) ⟨rfl, rfl, trivial⟩ trivial trivial <| .callG (C_quotient e21) ⟨rfl, rfl, trivial⟩ trivial trivial <| .stE ([D.bool v18, natD v19, natD v20]) rfl rfl rfl ly_exact_Q rfl rfl rfl <| .nil) rfl (by kernel_rfl) ?_
  cases h
  refine .retG (fun _ _ hb => hb) rfl (.cons (.agg rfl rfl ly_exact_Q rfl) .nil) (.refl _) trivial trivial
def m_Q_over (a1 : Bool) (a2 : Nat) (a3 : Nat) (a4 : Bool) (a5 : Nat) (a6 : Nat) : Option ((Bool × Nat) × Nat) := (m_Q_den a4 a5 a6).bind fun v7 => (n_mul a2 v7).bind fun v9 => (m_wholeOf (!(a1 == a4)) v9).bind fun (v11, v12) => (m_Q_den a1 a2 a3).bind fun v14 => (n_mul v14 a5).bind fun v16 => (m_quotient v11 v12 v16).bind fun ((v18, v19), v20) => some ((v18, v19), v20)
theorem C_Q_over {a1 : Bool} {a2 : Nat} {a3 : Nat} {a4 : Bool} {a5 : Nat} {a6 : Nat} {r22 : Bool} {r23 : Nat} {r24 : Nat} (h : m_Q_over a1 a2 a3 a4 a5 a6 = some ((r22, r23), r24)) : CtrG PP 164 [] [D.agg ([D.bool a1, natD a2, natD a3]), D.agg ([D.bool a4, natD a5, natD a6])] [] (D.agg ([D.bool r22, natD r23, natD r24])) := by
  unfold m_Q_over at h
  refine .of Go.Proofs.Tryz.func164 rfl (by kernel_rfl) rfl rfl rfl rfl rfl rfl (fun A w0 L b => ?_)
  show Ok PP _ [(0, D.agg ([D.bool a1, natD a2, natD a3])), (1, D.agg ([D.bool a4, natD a5, natD a6]))] [] _ _
  refine .reg (.bxA rfl rfl <| .bxA rfl rfl <| .alL ([D.bool false, natD 0, natD 0]) z_exact_Q ⟨.refl _, nil_nat, nil_nat, trivial⟩ rfl <| .nil) rfl ?_
  obtain ⟨v7, e8, h⟩ := bind_some h
  obtain ⟨v9, e10, h⟩ := bind_some h
  obtain ⟨⟨v11, v12⟩, e13, h⟩ := bind_some h
  obtain ⟨v14, e15, h⟩ := bind_some h
  obtain ⟨v16, e17, h⟩ := bind_some h
  obtain ⟨⟨⟨v18, v19⟩, v20⟩, e21, h⟩ := bind_some h
  refine .regD hmix (.fa rfl f_exact_Q_0 <| .fa rfl f_exact_whole_0 <| .ldE1 (D.bool a1) rfl rfl ly_bool rfl <| .fa rfl f_exact_Q_0 <| .fa rfl f_exact_whole_0 <| .ldE1 (D.bool a4) rfl rfl ly_bool rfl <| .bc ib_bool rfl rfl rfl <| .fa rfl f_exact_Q_0 <| .fa rfl f_exact_whole_1 <| .ldE1 (natD a2) rfl rfl ly_exact_nat rfl <| .ldE ([D.bool a4, natD a5, natD a6]) rfl rfl ly_exact_Q rfl rfl <| .callG (C_Q_den e8) ⟨rfl, trivial⟩ trivial trivial <| .callG (N_mul e10) ⟨rfl, rfl, trivial⟩ trivial trivial <| .callG (C_wholeOf e13) ⟨rfl, rfl, trivial⟩ trivial trivial <| .ldE ([D.bool a1, natD a2, natD a3]) rfl rfl ly_exact_Q rfl rfl <| .callG (C_Q_den e15) ⟨rfl, trivial⟩ trivial trivial <| .fa rfl f_exact_Q_0 <| .fa rfl f_exact_whole_1 <| .ldE1 (natD a5) rfl rfl ly_exact_nat rfl <| .callG (N_mul e17) ⟨rfl, rfl, trivial⟩ trivial trivial <| .callG (C_quotient e21) ⟨rfl, rfl, trivial⟩ trivial trivial <| .stE ([D.bool v18, natD v19, natD v20]) rfl rfl rfl ly_exact_Q rfl rfl rfl <| .nil) rfl (by kernel_rfl) ?_
  cases h
  refine .retG (fun _ _ hb => hb) rfl (.cons (.agg rfl rfl ly_exact_Q rfl) .nil) (.refl _) trivial trivial
def m_Q_Sign (a1 : Bool) (a2 : Nat) (a3 : Nat) : Option Int := (m_whole_sign a1 a2).bind fun v4 => some v4
theorem C_Q_Sign {a1 : Bool} {a2 : Nat} {a3 : Nat} {r6 : Int} (h : m_Q_Sign a1 a2 a3 = some r6) : CtrG PP 24 [] [D.agg ([D.bool a1, natD a2, natD a3])] [] (D.int .i64 r6) := by
  unfold m_Q_Sign at h
  refine .of Go.Proofs.Tryz.func24 rfl (by kernel_rfl) rfl rfl rfl rfl rfl rfl (fun A w0 L b => ?_)
  show Ok PP _ [(0, D.agg ([D.bool a1, natD a2, natD a3]))] [] _ _
  refine .reg (.bxA rfl rfl <| .asg rfl <| .nil) rfl ?_
  obtain ⟨v4, e5, h⟩ := bind_some h
  refine .reg (.fa rfl f_exact_Q_0 <| .ldE ([D.bool a1, natD a2]) rfl rfl ly_exact_whole rfl rfl <| .callG (C_whole_sign e5) ⟨rfl, trivial⟩ trivial trivial <| .asg rfl <| .nil) rfl ?_
  cases h
  refine .retG (fun _ _ hb => hb) rfl (.cons (.tmp rfl) .nil) (.refl _) trivial trivial
def m_Q_Abs (a1 : Bool) (a2 : Nat) (a3 : Nat) : Option ((Bool × Nat) × Nat) := (m_wholeOf false a2).bind fun (v4, v5) => some ((v4, v5), a3)
theorem C_Q_Abs {a1 : Bool} {a2 : Nat} {a3 : Nat} {r7 : Bool} {r8 : Nat} {r9 : Nat} (h : m_Q_Abs a1 a2 a3 = some ((r7, r8), r9)) : CtrG PP 50 [] [D.agg ([D.bool a1, natD a2, natD a3])] [] (D.agg ([D.bool r7, natD r8, natD r9])) := by
  unfold m_Q_Abs at h
  refine .of Go.Proofs.Tryz.func50 rfl (by kernel_rfl) rfl rfl rfl rfl rfl rfl (fun A w0 L b => ?_)
  show Ok PP _ [(0, D.agg ([D.bool a1, natD a2, natD a3]))] [] _ _
  refine .reg (.bxA rfl rfl <| .alL ([D.bool false, natD 0, natD 0]) z_exact_Q ⟨.refl _, nil_nat, nil_nat, trivial⟩ rfl <| .nil) rfl ?_
  obtain ⟨⟨v4, v5⟩, e6, h⟩ := bind_some h
  refine .regD hmix (.fa rfl f_exact_Q_0 <| .fa rfl f_exact_whole_1 <| .ldE1 (natD a2) rfl rfl ly_exact_nat rfl <| .callG (C_wholeOf e6) ⟨rfl, rfl, trivial⟩ trivial trivial <| .fa rfl f_exact_Q_1 <| .ldE1 (natD a3) rfl rfl ly_exact_nat rfl <| .bdQ ([D.bool v4, natD v5, natD a3]) [(0, _, D.agg ([D.bool v4, natD v5]), [D.bool v4, natD v5]), (2, _, natD a3, [natD a3])] z_exact_Q pl_exact_Q ⟨rfl, rfl, .agg _, rfl, rfl, rfl, .one rfl, rfl, trivial⟩ ⟨rfl, rfl, trivial⟩ ⟨.refl _, .refl _, .refl _, trivial⟩ <| .stE ([D.bool v4, natD v5, natD a3]) rfl rfl rfl ly_exact_Q rfl rfl rfl <| .nil) rfl (by kernel_rfl) ?_
  cases h
  refine .retG (fun _ _ hb => hb) rfl (.cons (.agg rfl rfl ly_exact_Q rfl) .nil) (.refl _) trivial trivial
def m_Q_Cmp (a1 : Bool) (a2 : Nat) (a3 : Nat) (a4 : Bool) (a5 : Nat) (a6 : Nat) : Option Int := (m_Q_den a4 a5 a6).bind fun v7 => (m_whole_times a1 a2 v7).bind fun (v9, v10) => (m_Q_den a1 a2 a3).bind fun v12 => (m_whole_times a4 a5 v12).bind fun (v14, v15) => (m_whole_cmp v9 v10 v14 v15).bind fun v17 => some v17
theorem C_Q_Cmp {a1 : Bool} {a2 : Nat} {a3 : Nat} {a4 : Bool} {a5 : Nat} {a6 : Nat} {r19 : Int} (h : m_Q_Cmp a1 a2 a3 a4 a5 a6 = some r19) : CtrG PP 35 [] [D.agg ([D.bool a1, natD a2, natD a3]), D.agg ([D.bool a4, natD a5, natD a6])] [] (D.int .i64 r19) := by
  unfold m_Q_Cmp at h
  refine .of Go.Proofs.Tryz.func35 rfl (by kernel_rfl) rfl rfl rfl rfl rfl rfl (fun A w0 L b => ?_)
  show Ok PP _ [(0, D.agg ([D.bool a1, natD a2, natD a3])), (1, D.agg ([D.bool a4, natD a5, natD a6]))] [] _ _
  refine .reg (.bxA rfl rfl <| .bxA rfl rfl <| .asg rfl <| .nil) rfl ?_
  obtain ⟨v7, e8, h⟩ := bind_some h
  obtain ⟨⟨v9, v10⟩, e11, h⟩ := bind_some h
  obtain ⟨v12, e13, h⟩ := bind_some h
  obtain ⟨⟨v14, v15⟩, e16, h⟩ := bind_some h
  obtain ⟨v17, e18, h⟩ := bind_some h
  refine .regD hmix (.fa rfl f_exact_Q_0 <| .ldE ([D.bool a1, natD a2]) rfl rfl ly_exact_whole rfl rfl <| .ldE ([D.bool a4, natD a5, natD a6]) rfl rfl ly_exact_Q rfl rfl <| .callG (C_Q_den e8) ⟨rfl, trivial⟩ trivial trivial <| .callG (C_whole_times e11) ⟨rfl, rfl, trivial⟩ trivial trivial <| .fa rfl f_exact_Q_0 <| .ldE ([D.bool a4, natD a5]) rfl rfl ly_exact_whole rfl rfl <| .ldE ([D.bool a1, natD a2, natD a3]) rfl rfl ly_exact_Q rfl rfl <| .callG (C_Q_den e13) ⟨rfl, trivial⟩ trivial trivial <| .callG (C_whole_times e16) ⟨rfl, rfl, trivial⟩ trivial trivial <| .callG (C_whole_cmp e18) ⟨rfl, rfl, trivial⟩ trivial trivial <| .asg rfl <| .nil) rfl (by kernel_rfl) ?_
  cases h
  refine .retG (fun _ _ hb => hb) rfl (.cons (.tmp rfl) .nil) (.refl _) trivial trivial
def m_Q_Den (a1 : Bool) (a2 : Nat) (a3 : Nat) : Option ((Bool × Nat) × Nat) := (m_Q_den a1 a2 a3).bind fun v4 => (m_of false v4).bind fun ((v6, v7), v8) => some ((v6, v7), v8)
theorem C_Q_Den {a1 : Bool} {a2 : Nat} {a3 : Nat} {r10 : Bool} {r11 : Nat} {r12 : Nat} (h : m_Q_Den a1 a2 a3 = some ((r10, r11), r12)) : CtrG PP 76 [] [D.agg ([D.bool a1, natD a2, natD a3])] [] (D.agg ([D.bool r10, natD r11, natD r12])) := by
  unfold m_Q_Den at h
  refine .of Go.Proofs.Tryz.func76 rfl (by kernel_rfl) rfl rfl rfl rfl rfl rfl (fun A w0 L b => ?_)
  show Ok PP _ [(0, D.agg ([D.bool a1, natD a2, natD a3]))] [] _ _
  refine .reg (.bxA rfl rfl <| .alL ([D.bool false, natD 0, natD 0]) z_exact_Q ⟨.refl _, nil_nat, nil_nat, trivial⟩ rfl <| .nil) rfl ?_
  obtain ⟨v4, e5, h⟩ := bind_some h
  obtain ⟨⟨⟨v6, v7⟩, v8⟩, e9, h⟩ := bind_some h
  refine .reg (.ldE ([D.bool a1, natD a2, natD a3]) rfl rfl ly_exact_Q rfl rfl <| .callG (C_Q_den e5) ⟨rfl, trivial⟩ trivial trivial <| .bdQ ([D.bool false, natD v4]) [(1, _, natD v4, [natD v4])] z_exact_whole pl_exact_whole ⟨rfl, rfl, .one rfl, rfl, trivial⟩ ⟨rfl, trivial⟩ ⟨.refl _, .refl _, trivial⟩ <| .callG (C_of e9) ⟨rfl, trivial⟩ trivial trivial <| .stE ([D.bool v6, natD v7, natD v8]) rfl rfl rfl ly_exact_Q rfl rfl rfl <| .nil) rfl ?_
  cases h
  refine .retG (fun _ _ hb => hb) rfl (.cons (.agg rfl rfl ly_exact_Q rfl) .nil) (.refl _) trivial trivial
def m_Q_Floor (a1 : Bool) (a2 : Nat) (a3 : Nat) : Option ((Bool × Nat) × Nat) := (m_Q_den a1 a2 a3).bind fun v4 => (m_whole_floor a1 a2 v4).bind fun (v6, v7) => (m_of v6 v7).bind fun ((v9, v10), v11) => some ((v9, v10), v11)
theorem C_Q_Floor {a1 : Bool} {a2 : Nat} {a3 : Nat} {r13 : Bool} {r14 : Nat} {r15 : Nat} (h : m_Q_Floor a1 a2 a3 = some ((r13, r14), r15)) : CtrG PP 78 [] [D.agg ([D.bool a1, natD a2, natD a3])] [] (D.agg ([D.bool r13, natD r14, natD r15])) := by
  unfold m_Q_Floor at h
  refine .of Go.Proofs.Tryz.func78 rfl (by kernel_rfl) rfl rfl rfl rfl rfl rfl (fun A w0 L b => ?_)
  show Ok PP _ [(0, D.agg ([D.bool a1, natD a2, natD a3]))] [] _ _
  refine .reg (.bxA rfl rfl <| .alL ([D.bool false, natD 0, natD 0]) z_exact_Q ⟨.refl _, nil_nat, nil_nat, trivial⟩ rfl <| .nil) rfl ?_
  obtain ⟨v4, e5, h⟩ := bind_some h
  obtain ⟨⟨v6, v7⟩, e8, h⟩ := bind_some h
  obtain ⟨⟨⟨v9, v10⟩, v11⟩, e12, h⟩ := bind_some h
  refine .regD hmix (.fa rfl f_exact_Q_0 <| .ldE ([D.bool a1, natD a2]) rfl rfl ly_exact_whole rfl rfl <| .ldE ([D.bool a1, natD a2, natD a3]) rfl rfl ly_exact_Q rfl rfl <| .callG (C_Q_den e5) ⟨rfl, trivial⟩ trivial trivial <| .callG (C_whole_floor e8) ⟨rfl, rfl, trivial⟩ trivial trivial <| .callG (C_of e12) ⟨rfl, trivial⟩ trivial trivial <| .stE ([D.bool v9, natD v10, natD v11]) rfl rfl rfl ly_exact_Q rfl rfl rfl <| .nil) rfl (by kernel_rfl) ?_
  cases h
  refine .retG (fun _ _ hb => hb) rfl (.cons (.agg rfl rfl ly_exact_Q rfl) .nil) (.refl _) trivial trivial
def m_fine (a1 : Int) : Option ((Bool × Nat) × Nat) := (n_of 1).bind fun v2 => (n_shl v2 a1).bind fun v4 => (m_of false v4).bind fun ((v6, v7), v8) => some ((v6, v7), v8)
theorem C_fine {a1 : Int} {r10 : Bool} {r11 : Nat} {r12 : Nat} (h : m_fine a1 = some ((r10, r11), r12)) : CtrG PP 171 [] [D.int .i64 a1] [] (D.agg ([D.bool r10, natD r11, natD r12])) := by
  unfold m_fine at h
  refine .of Go.Proofs.Tryz.func171 rfl (by kernel_rfl) rfl rfl rfl rfl rfl rfl (fun A w0 L b => ?_)
  show Ok PP _ [(0, D.int .i64 a1)] [] _ _
  refine .reg (.alL ([D.bool false, natD 0, natD 0]) z_exact_Q ⟨.refl _, nil_nat, nil_nat, trivial⟩ rfl <| .nil) rfl ?_
  obtain ⟨v2, e3, h⟩ := bind_some h
  obtain ⟨v4, e5, h⟩ := bind_some h
  obtain ⟨⟨⟨v6, v7⟩, v8⟩, e9, h⟩ := bind_some h
  refine .reg (.callG (N_of e3) ⟨rfl, trivial⟩ trivial trivial <| .mv rfl <| .callG (N_shl e5) ⟨rfl, rfl, trivial⟩ trivial trivial <| .bdQ ([D.bool false, natD v4]) [(1, _, natD v4, [natD v4])] z_exact_whole pl_exact_whole ⟨rfl, rfl, .one rfl, rfl, trivial⟩ ⟨rfl, trivial⟩ ⟨.refl _, .refl _, trivial⟩ <| .callG (C_of e9) ⟨rfl, trivial⟩ trivial trivial <| .stE ([D.bool v6, natD v7, natD v8]) rfl rfl rfl ly_exact_Q rfl rfl rfl <| .nil) rfl ?_
  cases h
  refine .retG (fun _ _ hb => hb) rfl (.cons (.agg rfl rfl ly_exact_Q rfl) .nil) (.refl _) trivial trivial
def m_Q_Root (a1 : Bool) (a2 : Nat) (a3 : Nat) (a4 : Int) : Option (((Bool × Nat) × Nat) × Int) := (if (decide (a4 < 0)) = true then some (((false, 0), 0), 3) else (if (decide (a4 > 64)) = true then some (((false, 0), 0), 3) else (m_Q_Sign a1 a2 a3).bind fun v7 => (if (decide (v7 < 0)) = true then some (((false, 0), 0), 8) else (n_shl a2 (IntKind.i64.wrap (2 * a4))).bind fun v10 => (m_Q_den a1 a2 a3).bind fun v12 => (n_div v10 v12).bind fun (v14, v15) => (n_root v14).bind fun v17 => (m_of false v17).bind fun ((v19, v20), v21) => (m_fine a4).bind fun ((v23, v24), v25) => (m_Q_over v19 v20 v21 v23 v24 v25).bind fun ((v27, v28), v29) => some (((v27, v28), v29), 0))))
theorem C_Q_Root {a1 : Bool} {a2 : Nat} {a3 : Nat} {a4 : Int} {r31 : Bool} {r32 : Nat} {r33 : Nat} {r34 : Int} (h : m_Q_Root a1 a2 a3 a4 = some (((r31, r32), r33), r34)) : CtrG PP 29 [] [D.agg ([D.bool a1, natD a2, natD a3]), D.int .i64 a4] [] (D.tup [D.agg ([D.bool r31, natD r32, natD r33]), D.int .i64 r34]) := by
  unfold m_Q_Root at h
  refine .of Go.Proofs.Tryz.func29 rfl (by kernel_rfl) rfl rfl rfl rfl rfl rfl (fun A w0 L b => ?_)
  show Ok PP _ [(0, D.agg ([D.bool a1, natD a2, natD a3])), (1, D.int .i64 a4)] [] _ _
  refine .reg (.bxA rfl rfl <| .alL ([D.bool false, natD 0, natD 0]) z_exact_Q ⟨.refl _, nil_nat, nil_nat, trivial⟩ rfl <| .asg rfl <| .nil) rfl ?_
  refine .sq ?_
  refine .block ?_
  by_cases c5 : (decide (a4 < 0)) = true
  · replace h := ite_pos_some c5 h
    refine .reg (.mv rfl <| .cm rfl rfl rfl <| .mv rfl <| .gNf rfl rfl rfl c5 <| .gNf rfl rfl rfl c5 <| .pkTb rfl c5 rfl <| .asg rfl <| .nil) rfl ?_
    refine .cTb rfl rfl ?_
    refine .reg (.bdQ ([D.bool false, natD 0, natD 0]) [] z_exact_Q pl_exact_Q trivial trivial ⟨.refl _, nil_nat, nil_nat, trivial⟩ <| .stE ([D.bool false, natD 0, natD 0]) rfl rfl rfl ly_exact_Q rfl rfl rfl <| .asg rfl <| .nil) rfl ?_
    cases h
    refine .retG (fun _ _ hb => hb) rfl (.cons (.agg rfl rfl ly_exact_Q rfl) (.cons (.tmp rfl) .nil)) (.refl _) trivial trivial
  · replace h := ite_neg_some c5 h
    refine .reg (.mv rfl <| .cm rfl rfl rfl <| .mv rfl <| .gYf rfl rfl rfl c5 <| .mv rfl <| .gYf rfl rfl rfl c5 <| .cm rfl rfl rfl <| .pkFb rfl c5 rfl <| .asg rfl <| .nil) rfl ?_
    by_cases c6 : (decide (a4 > 64)) = true
    · replace h := ite_pos_some c6 h
      refine .cTb rfl c6 ?_
      refine .reg (.bdQ ([D.bool false, natD 0, natD 0]) [] z_exact_Q pl_exact_Q trivial trivial ⟨.refl _, nil_nat, nil_nat, trivial⟩ <| .stE ([D.bool false, natD 0, natD 0]) rfl rfl rfl ly_exact_Q rfl rfl rfl <| .asg rfl <| .nil) rfl ?_
      cases h
      refine .retG (fun _ _ hb => hb) rfl (.cons (.agg rfl rfl ly_exact_Q rfl) (.cons (.tmp rfl) .nil)) (.refl _) trivial trivial
    · replace h := ite_neg_some c6 h
      refine .cFb rfl c6 ?_
      obtain ⟨v7, e8, h⟩ := bind_some h
      refine .reg (.ldE ([D.bool a1, natD a2, natD a3]) rfl rfl ly_exact_Q rfl rfl <| .callG (C_Q_Sign e8) ⟨rfl, trivial⟩ trivial trivial <| .cm rfl rfl rfl <| .asg rfl <| .nil) rfl ?_
      by_cases c9 : (decide (v7 < 0)) = true
      · replace h := ite_pos_some c9 h
        refine .cTb rfl c9 ?_
        refine .reg (.bdQ ([D.bool false, natD 0, natD 0]) [] z_exact_Q pl_exact_Q trivial trivial ⟨.refl _, nil_nat, nil_nat, trivial⟩ <| .stE ([D.bool false, natD 0, natD 0]) rfl rfl rfl ly_exact_Q rfl rfl rfl <| .asg rfl <| .nil) rfl ?_
        cases h
        refine .retG (fun _ _ hb => hb) rfl (.cons (.agg rfl rfl ly_exact_Q rfl) (.cons (.tmp rfl) .nil)) (.refl _) trivial trivial
      · replace h := ite_neg_some c9 h
        refine .cFb rfl c9 ?_
        refine .skip (Ok.on ?_)
        obtain ⟨v10, e11, h⟩ := bind_some h
        obtain ⟨v12, e13, h⟩ := bind_some h
        obtain ⟨⟨v14, v15⟩, e16, h⟩ := bind_some h
        refine .regD hmix (.fa rfl f_exact_Q_0 <| .fa rfl f_exact_whole_1 <| .ldE1 (natD a2) rfl rfl ly_exact_nat rfl <| .mv rfl <| .ar rfl rfl rfl <| .callG (N_shl e11) ⟨rfl, rfl, trivial⟩ trivial trivial <| .ldE ([D.bool a1, natD a2, natD a3]) rfl rfl ly_exact_Q rfl rfl <| .callG (C_Q_den e13) ⟨rfl, trivial⟩ trivial trivial <| .callG (N_div e16) ⟨rfl, rfl, trivial⟩ trivial trivial <| .mv rfl <| .ext rfl rfl <| .ext rfl rfl <| .asg rfl <| .asg rfl <| .nil) rfl (by kernel_rfl) ?_
        obtain ⟨v17, e18, h⟩ := bind_some h
        obtain ⟨⟨⟨v19, v20⟩, v21⟩, e22, h⟩ := bind_some h
        obtain ⟨⟨⟨v23, v24⟩, v25⟩, e26, h⟩ := bind_some h
        obtain ⟨⟨⟨v27, v28⟩, v29⟩, e30, h⟩ := bind_some h
        refine .reg (.mv rfl <| .callG (N_root e18) ⟨rfl, trivial⟩ trivial trivial <| .bdQ ([D.bool false, natD v17]) [(1, _, natD v17, [natD v17])] z_exact_whole pl_exact_whole ⟨rfl, rfl, .one rfl, rfl, trivial⟩ ⟨rfl, trivial⟩ ⟨.refl _, .refl _, trivial⟩ <| .callG (C_of e22) ⟨rfl, trivial⟩ trivial trivial <| .mv rfl <| .callG (C_fine e26) ⟨rfl, trivial⟩ trivial trivial <| .callG (C_Q_over e30) ⟨rfl, rfl, trivial⟩ trivial trivial <| .stE ([D.bool v27, natD v28, natD v29]) rfl rfl rfl ly_exact_Q rfl rfl rfl <| .asg rfl <| .nil) rfl ?_
        cases h
        refine .retG (fun _ _ hb => hb) rfl (.cons (.agg rfl rfl ly_exact_Q rfl) (.cons (.tmp rfl) .nil)) (.refl _) trivial trivial
end
end Go.Am
namespace Go.Am
open Go.RowKit
theorem blen_mul_le {x y m n : Nat} (h : blen x ≤ m) (k : blen y ≤ n) : blen (x * y) ≤ m + n := by
  rw [blen_le_iff] at *
  rw [Nat.pow_add]
  exact Nat.mul_lt_mul'' h k
theorem blen_natAbs_add {x y : Int} {n : Nat} (h : blen x.natAbs ≤ n) (k : blen y.natAbs ≤ n) : blen (x + y).natAbs ≤ n + 1 :=
  Nat.le_trans (blen_mono (Int.natAbs_add_le x y)) (blen_add h k)
def sg (neg : Bool) (n : Nat) : Int := if neg then -(n : Int) else n
theorem sg_self (z : Int) : sg (decide (z < 0)) z.natAbs = z := by
  unfold sg
  by_cases h : z < 0
  · rw [decide_eq_true h, if_pos rfl]; omega
  · rw [decide_eq_false h, if_neg (by decide)]; omega
theorem sg_abs (neg : Bool) (n : Nat) : (sg neg n).natAbs = n := by unfold sg; split <;> omega
theorem sg_mul (z w : Int) : sg (!(decide (z < 0) == decide (w < 0))) (z.natAbs * w.natAbs) = z * w := by
  unfold sg
  rcases Int.lt_or_le z 0 with h | h <;> rcases Int.lt_or_le w 0 with k | k
  · rw [decide_eq_true h, decide_eq_true k, if_neg (by decide)]
    rw [Int.natCast_mul, Int.ofNat_natAbs_of_nonpos (Int.le_of_lt h), Int.ofNat_natAbs_of_nonpos (Int.le_of_lt k), Int.neg_mul_neg]
  · rw [decide_eq_true h, decide_eq_false (by omega), if_pos (by decide)]
    rw [Int.natCast_mul, Int.ofNat_natAbs_of_nonpos (Int.le_of_lt h), Int.natAbs_of_nonneg k, Int.neg_mul, Int.neg_neg]
  · rw [decide_eq_false (by omega), decide_eq_true k, if_pos (by decide)]
    rw [Int.natCast_mul, Int.natAbs_of_nonneg h, Int.ofNat_natAbs_of_nonpos (Int.le_of_lt k), Int.mul_neg, Int.neg_neg]
  · rw [decide_eq_false (by omega), decide_eq_false (by omega), if_neg (by decide)]
    rw [Int.natCast_mul, Int.natAbs_of_nonneg h, Int.natAbs_of_nonneg k]
theorem sg_muln (z : Int) (d : Nat) : sg (decide (z < 0)) (z.natAbs * d) = z * d := by
  have := sg_mul z d
  rw [show decide ((d : Int) < 0) = false from decide_eq_false (by omega)] at this
  rw [← this]
  cases decide (z < 0) <;> rfl
theorem sg_neg (z : Int) : sg (!decide (z < 0)) z.natAbs = -z := by
  unfold sg
  by_cases h : z < 0
  · rw [decide_eq_true h, if_neg (by decide)]; omega
  · rw [decide_eq_false h, if_pos (by decide)]; omega
theorem len_pos_iff (n : Nat) : decide (((digs n).length : Int) > 0) = decide (n ≠ 0) := by
  by_cases h : n = 0
  · subst h; rw [digs_zero]; rfl
  · have := digs_len_pos h
    rw [decide_eq_true (by omega), decide_eq_true h]
theorem len_zero_iff (n : Nat) : (((digs n).length : Int) == 0) = decide (n = 0) := by
  by_cases h : n = 0
  · subst h; rw [digs_zero]; rfl
  · have := digs_len_pos h
    rw [decide_eq_false h, beq_eq_false_iff_ne]; omega
theorem wholeOf_is (neg : Bool) (n : Nat) : m_wholeOf neg n = some (decide (sg neg n < 0), (sg neg n).natAbs) := by
  unfold m_wholeOf
  rw [sg_abs, len_pos_iff]
  cases neg
  · rw [if_neg (by decide)]; unfold sg; rw [if_neg (by decide), decide_eq_false (by omega)]
  · rw [if_pos rfl]; unfold sg; rw [if_pos rfl]
    by_cases h : n = 0
    · subst h; rfl
    · rw [decide_eq_true h, decide_eq_true (by omega)]
theorem whole_sign_is (z : Int) : m_whole_sign (decide (z < 0)) z.natAbs = some (if z < 0 then -1 else if z = 0 then 0 else 1) := by
  unfold m_whole_sign
  rw [len_zero_iff]
  by_cases h : z < 0
  · rw [if_pos (decide_eq_true h), if_pos h]
  · rw [if_neg (by simpa using h), if_neg h]
    by_cases h0 : z = 0
    · subst h0; rfl
    · rw [if_neg (by simpa using h0), if_neg h0]
theorem whole_add_is (z w : Int) (hz : sm z.natAbs) (hw : sm w.natAbs) : m_whole_add (decide (z < 0)) z.natAbs (decide (w < 0)) w.natAbs = some (decide (z + w < 0), (z + w).natAbs) := by
  unfold m_whole_add
  have e1 : ∀ (neg : Bool) (n : Nat), sg neg n = z + w → m_wholeOf neg n = some (decide (z + w < 0), (z + w).natAbs) := fun neg n h => by rw [wholeOf_is, h]
  by_cases hs : (decide (z < 0) == decide (w < 0)) = true
  · rw [if_pos hs, n_add_eq hz hw, Option.bind_some, e1]
    · rfl
    · unfold sg
      rw [beq_iff_eq] at hs
      by_cases h : z < 0
      · rw [decide_eq_true h] at *
        have hs := of_decide_eq_true hs.symm
        rw [if_pos rfl]; omega
      · rw [decide_eq_false h] at *
        have hs := of_decide_eq_false hs.symm
        rw [if_neg (by decide)]; omega
  · rw [if_neg hs, n_cmp_eq hz hw, Option.bind_some]
    have hs2 : (z < 0 ∧ 0 ≤ w) ∨ (0 ≤ z ∧ w < 0) := by
      rw [beq_iff_eq] at hs
      by_cases h : z < 0 <;> by_cases k : w < 0
      · rw [decide_eq_true h, decide_eq_true k] at hs; exact absurd rfl hs
      · left; omega
      · right; omega
      · rw [decide_eq_false h, decide_eq_false k] at hs; exact absurd rfl hs
    by_cases hc : w.natAbs ≤ z.natAbs
    · rw [if_pos (decide_eq_true (cmpn_ge0 hc)), n_sub_eq hc hz, Option.bind_some, e1]
      · rfl
      · unfold sg; split <;> rename_i h <;> simp only [decide_eq_true_eq] at h <;> omega
    · have : cmpn z.natAbs w.natAbs = -1 := by unfold cmpn; rw [if_pos (by omega)]
      rw [this, if_neg (by decide), n_sub_eq (by omega) hw, Option.bind_some, e1]
      · rfl
      · unfold sg; split <;> rename_i h <;> simp only [decide_eq_true_eq] at h <;> omega
theorem whole_times_is (z : Int) (d : Nat) (hz : sm z.natAbs) (hd : sm d) : m_whole_times (decide (z < 0)) z.natAbs d = some (decide (z * d < 0), (z * d).natAbs) := by
  unfold m_whole_times
  rw [n_mul_eq hz hd, Option.bind_some, wholeOf_is, sg_muln]; rfl
def cmpz (z w : Int) : Int := if z < w then -1 else if w < z then 1 else 0
theorem whole_cmp_is (z w : Int) (hz : sm z.natAbs) (hw : sm w.natAbs) : m_whole_cmp (decide (z < 0)) z.natAbs (decide (w < 0)) w.natAbs = some (cmpz z w) := by
  unfold m_whole_cmp cmpz
  by_cases h : z < 0 <;> by_cases k : w < 0
  · rw [decide_eq_true h, decide_eq_true k, if_neg (by decide), if_pos rfl, n_cmp_eq hw hz]
    simp only [Option.bind_some, cmpn]; congr 1; split <;> split <;> (try split) <;> (try split) <;> omega
  · rw [decide_eq_true h, decide_eq_false k, if_pos (by decide), if_pos rfl, if_pos (by omega)]
  · rw [decide_eq_false h, decide_eq_true k, if_pos (by decide), if_neg (by decide), if_neg (by omega), if_pos (by omega)]
  · rw [decide_eq_false h, decide_eq_false k, if_neg (by decide), if_neg (by decide), n_cmp_eq hz hw]
    simp only [Option.bind_some, cmpn]; congr 1; split <;> split <;> (try split) <;> (try split) <;> omega
theorem whole_floor_is (z : Int) (d : Nat) (h0 : d ≠ 0) (hz : sm z.natAbs) (hd : sm d) : m_whole_floor (decide (z < 0)) z.natAbs d = some (decide (z / d < 0), (z / d).natAbs) := by
  unfold m_whole_floor
  rw [n_div_eq h0 hz hd, Option.bind_some]
  simp only
  have hm := Nat.div_add_mod z.natAbs d
  have hlt := Nat.mod_lt z.natAbs (Nat.pos_of_ne_zero h0)
  have hq : sm (z.natAbs / d) := sm_le (Nat.div_le_self _ _) hz
  have e1 : n_of (1 : Int) = some 1 := n_of_eq (n := 1) (by omega)
  rw [e1, len_pos_iff]
  have hsm1 : sm 1 := sm_small (by omega)
  by_cases h : z < 0
  · rw [decide_eq_true h, if_pos rfl]
    by_cases hr : z.natAbs % d = 0
    · rw [if_neg (by simpa using hr), Option.bind_some, wholeOf_is]
      have : sg true (z.natAbs / d) = z / d := by
        unfold sg; rw [if_pos rfl]
        symm; apply Int.ediv_eq_of_eq_mul_left (by omega)
        rw [Int.neg_mul, ← Int.natCast_mul, Nat.mul_comm]; omega
      rw [this]; rfl
    · rw [if_pos (by simpa using hr), Option.bind_some, n_add_eq hq hsm1, Option.bind_some, Option.bind_some, wholeOf_is]
      have : sg true (z.natAbs / d + 1) = z / d := by
        unfold sg; rw [if_pos rfl]
        symm
        have e : z = (((d - z.natAbs % d : Nat)) : Int) + (d : Int) * (-((z.natAbs / d + 1 : Nat) : Int)) := by
          have : ((d * (z.natAbs / d) : Nat) : Int) = (d : Int) * ((z.natAbs / d : Nat) : Int) := Int.natCast_mul _ _
          rw [Int.mul_neg, Int.natCast_add, Int.mul_add]; omega
        rw [e, Int.add_mul_ediv_left _ _ (by omega), Int.ediv_eq_zero_of_lt (by omega) (by omega)]
        rw [← e]; omega
      rw [this]; rfl
  · rw [decide_eq_false h, if_neg (by decide), Option.bind_some, wholeOf_is]
    have : sg false (z.natAbs / d) = z / d := by
      unfold sg; rw [if_neg (by decide), Int.natCast_ediv]; congr 1; omega
    rw [this]; rfl
theorem magnitude_is (n : Int) (h : i64r n) : m_magnitude n = some n.natAbs := by
  unfold m_magnitude
  obtain ⟨h0, h1⟩ := h
  by_cases hn : n < 0
  · have e1 : IntKind.u64.wrap (0 - IntKind.u64.wrap n) = ((n.natAbs : Nat) : Int) := by
      rw [IntKind.wrap_u64, IntKind.wrap_u64]; omega
    rw [if_pos (decide_eq_true hn), e1, n_of_eq (by omega)]; rfl
  · have e1 : IntKind.u64.wrap n = ((n.natAbs : Nat) : Int) := by rw [IntKind.wrap_u64]; omega
    rw [if_neg (by simpa using hn), e1, n_of_eq (by omega)]; rfl
end Go.Am
namespace Go.Am
open Go.RowKit
abbrev rp (x : Rat) : (Bool × Nat) × Nat := ((decide (x.num < 0), x.num.natAbs), x.den - 1)
theorem digs_ix0 {g : Nat} (h : g ≠ 0) : ix (digs g) 0 = some (g % 4294967296) := by
  rw [digs_pos h]; rfl
theorem quot_parts (z : Int) (d : Nat) (hd : d ≠ 0) : (mkRat z d).num = z / ((Nat.gcd z.natAbs d : Nat) : Int) ∧ (mkRat z d).den = d / Nat.gcd z.natAbs d := by
  rw [Rat.num_mkRat, Rat.den_mkRat, if_neg hd, if_neg hd, Nat.gcd_comm]; exact ⟨rfl, rfl⟩
theorem sg_div (z : Int) (g : Nat) (hg : g ∣ z.natAbs) : sg (decide (z < 0)) (z.natAbs / g) = z / (g : Int) := by
  obtain ⟨k, hk⟩ := hg
  rcases Nat.eq_zero_or_pos g with h0 | h0
  · subst h0; rw [Nat.zero_mul] at hk; have : z = 0 := by omega
    subst this; rfl
  rw [hk, Nat.mul_div_cancel_left _ h0]
  unfold sg
  by_cases h : z < 0
  · rw [decide_eq_true h, if_pos rfl]
    symm; apply Int.ediv_eq_of_eq_mul_right (by omega)
    rw [Int.mul_neg, ← Int.natCast_mul]; omega
  · rw [decide_eq_false h, if_neg (by decide)]
    symm; apply Int.ediv_eq_of_eq_mul_right (by omega)
    rw [← Int.natCast_mul]; omega
theorem quotient_is (z : Int) (d : Nat) (hd : d ≠ 0) (hz : sm z.natAbs) (hs : sm d) : m_quotient (decide (z < 0)) z.natAbs d = some (rp (mkRat z d)) := by
  obtain ⟨e1, e2⟩ := quot_parts z d hd
  unfold m_quotient rp
  rw [n_gcd_eq hz hs, Option.bind_some, e1, e2]
  have hg0 : Nat.gcd z.natAbs d ≠ 0 := fun h => hd (Nat.eq_zero_of_gcd_eq_zero_right h)
  have hgd : Nat.gcd z.natAbs d ∣ d := Nat.gcd_dvd_right _ _
  have hgs : sm (Nat.gcd z.natAbs d) := sm_le (Nat.le_of_dvd (Nat.pos_of_ne_zero hd) hgd) hs
  have hsg := sg_div z _ (Nat.gcd_dvd_left z.natAbs d)
  have hq1 : d / Nat.gcd z.natAbs d ≠ 0 := Nat.pos_iff_ne_zero.1 (Nat.div_pos (Nat.le_of_dvd (Nat.pos_of_ne_zero hd) hgd) (Nat.pos_of_ne_zero hg0))
  have hq2 : sm (d / Nat.gcd z.natAbs d) := sm_le (Nat.div_le_self _ _) hs
  generalize Nat.gcd z.natAbs d = g at *
  have hin : (if (((digs g).length : Int) != 1) = true then (n_div z.natAbs g).bind fun (v9, v10) => (n_div d g).bind fun (v12, v13) => some ((v12, v9)) else (ix (digs g) 0).bind fun v15 => (if ((v15 : Int) != 1) = true then (n_div z.natAbs g).bind fun (v18, v19) => (n_div d g).bind fun (v21, v22) => some ((v21, v18)) else some ((d, z.natAbs)))) = some (d / g, z.natAbs / g) := by
    by_cases h1 : (((digs g).length : Int) != 1) = true
    · rw [if_pos h1, n_div_eq hg0 hz hgs, Option.bind_some]; dsimp only; rw [n_div_eq hg0 hs hgs, Option.bind_some]
    · rw [if_neg h1, digs_ix0 hg0, Option.bind_some]
      by_cases h2 : (((g % 4294967296 : Nat) : Int) != 1) = true
      · rw [if_pos h2, n_div_eq hg0 hz hgs, Option.bind_some]; dsimp only; rw [n_div_eq hg0 hs hgs, Option.bind_some]
      · rw [if_neg h2]
        have h3 : (digs g).length = 1 := by
          have : ((digs g).length : Int) = 1 := by simpa using h1
          omega
        have := digs_lt (x := g)
        rw [h3] at this
        have h4 : g % 4294967296 = 1 := by simp at h2; omega
        have : g = 1 := by omega
        subst this
        rw [Nat.div_one, Nat.div_one]
  rw [hin, Option.bind_some]
  simp only
  rw [wholeOf_is, hsg, Option.bind_some]
  simp only
  have e3 : n_of (1 : Int) = some 1 := n_of_eq (n := 1) (by omega)
  rw [e3, Option.bind_some, n_sub_eq (by omega) hq2]; rfl
def qw (x : Rat) : Prop := sz x ≤ 2000000000000
theorem qs_w {x : Rat} (h : qs' x) : qw x := Nat.le_trans h (by omega)
theorem qs_num {x : Rat} (h : qw x) : blen x.num.natAbs ≤ 2000000000000 := Nat.le_trans (Nat.le_max_left _ _) h
theorem qs_den {x : Rat} (h : qw x) : blen x.den ≤ 2000000000000 := Nat.le_trans (Nat.le_max_right _ _) h
theorem sm_of {x n : Nat} (h : blen x ≤ n) (k : n ≤ 4398046511104) : sm x := Nat.le_trans h k
theorem qs_smn {x : Rat} (h : qw x) : sm x.num.natAbs := sm_of (qs_num h) (by omega)
theorem qs_smd {x : Rat} (h : qw x) : sm x.den := sm_of (qs_den h) (by omega)
theorem nd_bd {a b : Rat} (h : qw a) (k : qw b) : blen (a.num * b.den).natAbs ≤ 4000000000000 := by
  rw [Int.natAbs_mul]; exact Nat.le_trans (blen_mul_le (qs_num h) (qs_den k)) (by omega)
theorem dd_bd {a b : Rat} (h : qw a) (k : qw b) : blen (a.den * b.den) ≤ 4000000000000 := Nat.le_trans (blen_mul_le (qs_den h) (qs_den k)) (by omega)
theorem nn_bd {a b : Rat} (h : qw a) (k : qw b) : blen (a.num * b.num).natAbs ≤ 4000000000000 := by
  rw [Int.natAbs_mul]; exact Nat.le_trans (blen_mul_le (qs_num h) (qs_num k)) (by omega)
theorem Q_den_is (a : Rat) (neg : Bool) (n : Nat) (h : qw a) : m_Q_den neg n (a.den - 1) = some a.den := by
  unfold m_Q_den
  have e3 : n_of (1 : Int) = some 1 := n_of_eq (n := 1) (by omega)
  have := a.den_pos
  rw [e3, Option.bind_some, n_add_eq (sm_le (Nat.sub_le _ _) (qs_smd h)) (sm_small (by omega)), Nat.sub_add_cancel this]; rfl
theorem Q_Add_is (a b : Rat) (h : qw a) (k : qw b) : m_Q_Add (decide (a.num < 0)) a.num.natAbs (a.den - 1) (decide (b.num < 0)) b.num.natAbs (b.den - 1) = some (rp (a + b)) := by
  unfold m_Q_Add
  rw [Q_den_is a _ _ h, Option.bind_some, Q_den_is b _ _ k, Option.bind_some, whole_times_is _ _ (qs_smn h) (qs_smd k), Option.bind_some]
  simp only
  rw [whole_times_is _ _ (qs_smn k) (qs_smd h), Option.bind_some]
  simp only
  rw [whole_add_is _ _ (sm_of (nd_bd h k) (by omega)) (sm_of (nd_bd k h) (by omega)), Option.bind_some]
  simp only
  rw [n_mul_eq (qs_smd h) (qs_smd k), Option.bind_some, quotient_is _ _ (Nat.mul_ne_zero a.den_nz b.den_nz) (sm_of (blen_natAbs_add (nd_bd h k) (nd_bd k h)) (by omega)) (sm_of (dd_bd h k) (by omega)), ← Rat.add_def']
  rfl
theorem Q_Neg_is (a : Rat) : m_Q_Neg (decide (a.num < 0)) a.num.natAbs (a.den - 1) = some (rp (-a)) := by
  unfold m_Q_Neg rp
  rw [wholeOf_is, sg_neg, Rat.neg_num, Rat.neg_den]; rfl
theorem sz_neg (a : Rat) : qw (-a) = qw a := by unfold qw sz; rw [Rat.neg_num, Rat.neg_den, Int.natAbs_neg]
theorem Q_Sub_is (a b : Rat) (h : qw a) (k : qw b) : m_Q_Sub (decide (a.num < 0)) a.num.natAbs (a.den - 1) (decide (b.num < 0)) b.num.natAbs (b.den - 1) = some (rp (a - b)) := by
  unfold m_Q_Sub
  rw [Q_Neg_is, Option.bind_some]
  simp only
  rw [Q_Add_is a (-b) h (by rw [sz_neg]; exact k), ← Rat.sub_eq_add_neg]; rfl
theorem Q_Mul_is (a b : Rat) (h : qw a) (k : qw b) : m_Q_Mul (decide (a.num < 0)) a.num.natAbs (a.den - 1) (decide (b.num < 0)) b.num.natAbs (b.den - 1) = some (rp (a * b)) := by
  unfold m_Q_Mul
  rw [n_mul_eq (qs_smn h) (qs_smn k), Option.bind_some, wholeOf_is, sg_mul, Option.bind_some]
  simp only
  rw [Q_den_is a _ _ h, Option.bind_some, Q_den_is b _ _ k, Option.bind_some, n_mul_eq (qs_smd h) (qs_smd k), Option.bind_some, quotient_is _ _ (Nat.mul_ne_zero a.den_nz b.den_nz) (sm_of (nn_bd h k) (by omega)) (sm_of (dd_bd h k) (by omega)), ← Rat.mul_def']
  rfl
theorem div_is (a b : Rat) (hb : b ≠ 0) : a / b = mkRat (sg (!(decide (a.num < 0) == decide (b.num < 0))) (a.num.natAbs * b.den)) (a.den * b.num.natAbs) := by
  have hn : b.num ≠ 0 := fun h => hb (Rat.num_eq_zero.1 h)
  have e : a / b = Rat.divInt (a.num * b.den) (a.den * b.num) := by
    have ea := Rat.num_divInt_den a
    rw [Rat.div_def, Rat.inv_def]
    conv => lhs; rw [← ea]
    rw [Rat.divInt_mul_divInt]
  rw [e]
  have hden : ((a.den * b.num.natAbs : Nat) : Int) = (a.den : Int) * (b.num.natAbs : Int) := Int.natCast_mul _ _
  rw [← Rat.divInt_ofNat, hden]
  have hnum : ((a.num.natAbs * b.den : Nat) : Int) = (a.num.natAbs : Int) * (b.den : Int) := Int.natCast_mul _ _
  rcases Int.lt_or_le b.num 0 with h | h
  · have h1 : (b.num.natAbs : Int) = -b.num := Int.ofNat_natAbs_of_nonpos (Int.le_of_lt h)
    rw [h1, Int.mul_neg, Rat.divInt_neg']
    congr 1
    unfold sg
    rw [decide_eq_true h]
    rcases Int.lt_or_le a.num 0 with k | k
    · rw [decide_eq_true k, if_neg (by decide), hnum, Int.ofNat_natAbs_of_nonpos (Int.le_of_lt k), Int.neg_mul, Int.neg_neg]
    · rw [decide_eq_false (by omega), if_pos (by decide), hnum, Int.natAbs_of_nonneg k, Int.neg_neg]
  · have h1 : (b.num.natAbs : Int) = b.num := Int.natAbs_of_nonneg h
    rw [h1]
    congr 1
    unfold sg
    rw [decide_eq_false (p := b.num < 0) (by omega)]
    rcases Int.lt_or_le a.num 0 with k | k
    · rw [decide_eq_true k, if_pos (by decide), hnum, Int.ofNat_natAbs_of_nonpos (Int.le_of_lt k), Int.neg_mul, Int.neg_neg]
    · rw [decide_eq_false (by omega), if_neg (by decide), hnum, Int.natAbs_of_nonneg k]
theorem Q_over_is (a b : Rat) (hb : b ≠ 0) (h : qw a) (k : qw b) : m_Q_over (decide (a.num < 0)) a.num.natAbs (a.den - 1) (decide (b.num < 0)) b.num.natAbs (b.den - 1) = some (rp (a / b)) := by
  have hn : b.num.natAbs ≠ 0 := fun h => hb (Rat.num_eq_zero.1 (by omega))
  unfold m_Q_over
  rw [Q_den_is b _ _ k, Option.bind_some, n_mul_eq (qs_smn h) (qs_smd k), Option.bind_some, wholeOf_is, Option.bind_some]
  simp only
  rw [Q_den_is a _ _ h, Option.bind_some, n_mul_eq (qs_smd h) (qs_smn k), Option.bind_some, quotient_is _ _ (Nat.mul_ne_zero a.den_nz hn) (by rw [sg_abs]; exact sm_of (blen_mul_le (qs_num h) (qs_den k)) (by omega)) (sm_of (blen_mul_le (qs_den h) (qs_num k)) (by omega)), ← div_is a b hb]
  rfl
theorem sgn_num (a : Rat) : (if a.num < 0 then (-1 : Int) else if a.num = 0 then 0 else 1) = sgn a := by
  unfold sgn
  have h1 : a.num < 0 ↔ a < 0 := by
    rw [Rat.lt_iff]; simp
  have h2 : a.num = 0 ↔ a = 0 := Rat.num_eq_zero
  simp only [h1, h2]
theorem Q_Sign_is (a : Rat) (d : Nat) : m_Q_Sign (decide (a.num < 0)) a.num.natAbs d = some (sgn a) := by
  unfold m_Q_Sign; rw [whole_sign_is, sgn_num]; rfl
theorem Q_Abs_is (a : Rat) : m_Q_Abs (decide (a.num < 0)) a.num.natAbs (a.den - 1) = some (rp (if a < 0 then -a else a)) := by
  have h1 : a.num < 0 ↔ a < 0 := by rw [Rat.lt_iff]; simp
  unfold m_Q_Abs rp
  rw [wholeOf_is, Option.bind_some]
  have e1 : decide (sg false a.num.natAbs < 0) = false := by unfold sg; rw [if_neg (by decide)]; exact decide_eq_false (by omega)
  rw [e1, sg_abs]
  by_cases h : a < 0
  · have := h1.2 h
    rw [if_pos h, Rat.neg_num, Rat.neg_den, Int.natAbs_neg, decide_eq_false (p := -a.num < 0) (by omega)]
  · have := fun k => h (h1.1 k)
    rw [if_neg h, decide_eq_false (p := a.num < 0) this]
theorem cmpq_eq (a b : Rat) : cmpz (a.num * b.den) (b.num * a.den) = cmpq a b := by
  unfold cmpz cmpq; simp only [Rat.lt_iff]
theorem Q_Cmp_is (a b : Rat) (h : qw a) (k : qw b) : m_Q_Cmp (decide (a.num < 0)) a.num.natAbs (a.den - 1) (decide (b.num < 0)) b.num.natAbs (b.den - 1) = some (cmpq a b) := by
  unfold m_Q_Cmp
  rw [Q_den_is b _ _ k, Option.bind_some, whole_times_is _ _ (qs_smn h) (qs_smd k), Option.bind_some]
  simp only
  rw [Q_den_is a _ _ h, Option.bind_some, whole_times_is _ _ (qs_smn k) (qs_smd h), Option.bind_some]
  simp only
  rw [whole_cmp_is _ _ (sm_of (nd_bd h k) (by omega)) (sm_of (nd_bd k h) (by omega)), cmpq_eq]; rfl
theorem rp_int (z : Int) : rp (z : Rat) = ((decide (z < 0), z.natAbs), 0) := by
  unfold rp; rw [Rat.num_intCast, Rat.den_intCast]
theorem of_is (z : Int) : m_of (decide (z < 0)) z.natAbs = some (rp (z : Rat)) := by rw [rp_int]; rfl
theorem nat_rp (n : Nat) : m_of false n = some (rp (n : Rat)) := by
  have := of_is n
  rw [decide_eq_false (by omega)] at this
  exact this
theorem Q_Den_is (a : Rat) (neg : Bool) (n : Nat) (h : qw a) : m_Q_Den neg n (a.den - 1) = some (rp (a.den : Rat)) := by
  unfold m_Q_Den; rw [Q_den_is a _ _ h, Option.bind_some, nat_rp]; rfl
theorem Q_Floor_is (a : Rat) (h : qw a) : m_Q_Floor (decide (a.num < 0)) a.num.natAbs (a.den - 1) = some (rp (a.floor : Rat)) := by
  unfold m_Q_Floor
  rw [Q_den_is a _ _ h, Option.bind_some, whole_floor_is _ _ a.den_nz (qs_smn h) (qs_smd h), Option.bind_some]
  simp only
  rw [of_is, Rat.floor_def]; rfl
end Go.Am
namespace Go.Am
open Go.RowKit
theorem one_of : n_of (1 : Int) = some 1 := n_of_eq (n := 1) (by omega)
theorem Int_is (n : Int) (h : i64r n) : m_Int n = some (rp (n : Rat)) := by
  unfold m_Int
  rw [magnitude_is n h, Option.bind_some, wholeOf_is, sg_self, Option.bind_some]
  dsimp only
  rw [of_is]; rfl
theorem i64_sm {n : Int} (h : i64r n) : sm n.natAbs := sm_small (by unfold i64r at h; omega)
theorem div_int (a b : Int) (hb : b ≠ 0) : (a : Rat) / (b : Rat) = mkRat (sg (!(decide (a < 0) == decide (b < 0))) a.natAbs) b.natAbs := by
  have h1 : (b : Rat) ≠ 0 := fun h => hb (by rw [← Rat.intCast_zero, Rat.intCast_inj] at h; exact h)
  have := div_is a b h1
  rw [Rat.num_intCast, Rat.num_intCast, Rat.den_intCast, Rat.den_intCast, Nat.mul_one, Nat.one_mul] at this
  exact this
theorem Of_is (n d : Int) (h : i64r n) (k : i64r d) : m_Of n d = some (if d = 0 then (rp 0, 9) else (rp ((n : Rat) / (d : Rat)), 0)) := by
  unfold m_Of
  by_cases h0 : d = 0
  · subst h0; rfl
  · rw [if_neg (by rw [beq_iff_eq]; exact h0), if_neg h0, magnitude_is n h, Option.bind_some, wholeOf_is, Option.bind_some]
    dsimp only
    rw [magnitude_is d k, Option.bind_some, quotient_is _ _ (by omega) (by rw [sg_abs]; exact i64_sm h) (i64_sm k), ← div_int n d h0]
    rfl
theorem mk_num_le (z : Int) (d : Nat) : (mkRat z d).num.natAbs ≤ z.natAbs := by
  rw [Rat.num_mkRat]
  split
  · exact Nat.zero_le _
  · rename_i h
    rw [Int.natAbs_ediv_of_dvd]
    · exact Nat.div_le_self _ _
    · rw [Int.ofNat_dvd_left]; exact Nat.gcd_dvd_right _ _
theorem mk_den_le (z : Int) (d : Nat) (h : d ≠ 0) : (mkRat z d).den ≤ d := by
  rw [Rat.den_mkRat, if_neg h]; exact Nat.div_le_self _ _
theorem sz_le {x : Rat} {n : Nat} : sz x ≤ n ↔ blen x.num.natAbs ≤ n ∧ blen x.den ≤ n := Nat.max_le
theorem blen_one : blen 1 = 1 := rfl
theorem sz_add (a b : Rat) : sz (a + b) ≤ sz a + sz b + 1 := by
  rw [Rat.add_def']
  have ha := sz_le.1 (Nat.le_refl (sz a)); have hb := sz_le.1 (Nat.le_refl (sz b))
  refine sz_le.2 ⟨Nat.le_trans (blen_mono (mk_num_le _ _)) (blen_natAbs_add ?_ ?_), Nat.le_trans (blen_mono (mk_den_le _ _ (Nat.mul_ne_zero a.den_nz b.den_nz))) ?_⟩
  · rw [Int.natAbs_mul]; exact blen_mul_le ha.1 hb.2
  · rw [Int.natAbs_mul, Nat.add_comm]; exact blen_mul_le hb.1 ha.2
  · exact Nat.le_trans (blen_mul_le ha.2 hb.2) (by omega)
theorem sz_neg' (a : Rat) : sz (-a) = sz a := by unfold sz; rw [Rat.neg_num, Rat.neg_den, Int.natAbs_neg]
theorem sz_sub (a b : Rat) : sz (a - b) ≤ sz a + sz b + 1 := by
  rw [Rat.sub_eq_add_neg, ← sz_neg' b]; exact sz_add a (-b)
theorem sz_mul (a b : Rat) : sz (a * b) ≤ sz a + sz b := by
  rw [Rat.mul_def']
  have ha := sz_le.1 (Nat.le_refl (sz a)); have hb := sz_le.1 (Nat.le_refl (sz b))
  refine sz_le.2 ⟨Nat.le_trans (blen_mono (mk_num_le _ _)) ?_, Nat.le_trans (blen_mono (mk_den_le _ _ (Nat.mul_ne_zero a.den_nz b.den_nz))) ?_⟩
  · rw [Int.natAbs_mul]; exact blen_mul_le ha.1 hb.1
  · exact blen_mul_le ha.2 hb.2
theorem sz_div (a b : Rat) (h : b ≠ 0) : sz (a / b) ≤ sz a + sz b := by
  rw [div_is a b h]
  have hn : b.num.natAbs ≠ 0 := fun h' => h (Rat.num_eq_zero.1 (by omega))
  have ha := sz_le.1 (Nat.le_refl (sz a)); have hb := sz_le.1 (Nat.le_refl (sz b))
  refine sz_le.2 ⟨Nat.le_trans (blen_mono (mk_num_le _ _)) ?_, Nat.le_trans (blen_mono (mk_den_le _ _ (Nat.mul_ne_zero a.den_nz hn))) ?_⟩
  · rw [sg_abs]; exact blen_mul_le ha.1 hb.2
  · exact blen_mul_le ha.2 hb.1
theorem sz_int (z : Int) : sz (z : Rat) ≤ blen z.natAbs + 1 := by
  rw [sz_le, Rat.num_intCast, Rat.den_intCast, blen_one]; omega
theorem sz_floor (a : Rat) : sz (a.floor : Rat) ≤ sz a + 1 := by
  have ha := sz_le.1 (Nat.le_refl (sz a))
  refine Nat.le_trans (sz_int _) (Nat.succ_le_succ (Nat.le_trans (blen_mono ?_) ha.1))
  rw [Rat.floor_def]
  exact Int.natAbs_ediv_le_natAbs _ _
theorem sz_abs (a : Rat) : sz (if a < 0 then -a else a) = sz a := by split <;> simp [sz_neg']
theorem sz_den (a : Rat) : sz (a.den : Rat) ≤ sz a + 1 := by
  have ha := sz_le.1 (Nat.le_refl (sz a))
  have := sz_int (a.den : Int)
  rw [Int.natAbs_natCast] at this
  exact Nat.le_trans this (by omega)
end Go.Am
namespace Go.Am
open Go.RowKit
theorem den_one_iff (a : Rat) : decide (((digs (a.den - 1)).length : Int) > 0) = decide (a.den ≠ 1) := by
  have := a.den_pos
  rw [len_pos_iff]
  by_cases h : a.den = 1
  · rw [decide_eq_false (by omega), decide_eq_false (by omega)]
  · rw [decide_eq_true (by omega), decide_eq_true h]
theorem decL_len {x n : Nat} (h : blen x ≤ n) : (decL x).length ≤ n + 1 := by
  unfold decL
  split
  · simp
  · unfold bytesOf
    rw [List.length_map, List.length_reverse]
    exact Nat.le_trans (dR_len n x (blen_lt_of h)) (by omega)
theorem n_dec_eq {a : Nat} (h : sm a) : n_dec a = some (decL a) := must_of h rfl
theorem Text_is (a : Rat) (h : qs' a) : m_Q_Text (decide (a.num < 0)) a.num.natAbs (a.den - 1) = some (txt a) := by
  have h1 : (decL a.num.natAbs).length ≤ 400000000001 := decL_len (sz_le.1 h).1
  have h2 : (decL a.den).length ≤ 400000000001 := decL_len (sz_le.1 h).2
  unfold m_Q_Text txt
  rw [n_dec_eq (qs_smn (qs_w h)), Option.bind_some, den_one_iff]
  have e1 : (if decide (a.num < 0) = true then must (([45] : List UInt8).length + (decL a.num.natAbs).length ≤ 9223372036854775807) (some ((([45] : List UInt8) ++ decL a.num.natAbs))) else some (decL a.num.natAbs)) = some ((if a.num < 0 then [45] else []) ++ decL a.num.natAbs) := by
    by_cases h : a.num < 0
    · rw [if_pos (decide_eq_true h), if_pos h]; exact must_of (by simp only [List.length_cons, List.length_nil]; omega) rfl
    · rw [if_neg (by simpa using h), if_neg h]; rfl
  rw [e1, Option.bind_some]
  have h3 : ((if a.num < 0 then [45] else []) ++ decL a.num.natAbs : List UInt8).length ≤ 400000000002 := by
    rw [List.length_append]; split <;> simp only [List.length_cons, List.length_nil] <;> omega
  generalize ((if a.num < 0 then [45] else []) ++ decL a.num.natAbs : List UInt8) = t at *
  by_cases hd : a.den = 1
  · rw [if_neg (by simpa using hd), if_pos hd, List.append_nil]; rfl
  · rw [if_pos (decide_eq_true hd), if_neg hd, Q_den_is a _ _ (qs_w h), Option.bind_some, n_dec_eq (qs_smd (qs_w h)), Option.bind_some]
    rw [must_eq (by simp only [List.length_cons, List.length_nil]; omega), must_eq (by simp only [List.length_append, List.length_cons, List.length_nil]; omega)]
    rfl
theorem pow_rat (k : Nat) : ((2 ^ k : Nat) : Rat) = 2 ^ k := by rw [Rat.natCast_pow]; rfl
theorem fine_is (k : Int) (h : 0 ≤ k ∧ k ≤ 100000) : m_fine k = some (rp ((2 : Rat) ^ k.toNat)) := by
  obtain ⟨n, rfl⟩ : ∃ n : Nat, k = n := ⟨k.toNat, by omega⟩
  unfold m_fine
  rw [one_of, Option.bind_some, n_shl_eq (sm_small (by omega)) (by omega), Option.bind_some, Nat.one_mul, nat_rp, Int.toNat_natCast, pow_rat]
  rfl
theorem blen_isqrt {x m : Nat} (h : blen x ≤ 2 * m) : blen (isqrt x) ≤ m := by
  rw [blen_le_iff] at *
  apply Classical.byContradiction
  intro hc
  have h1 := Nat.mul_le_mul (Nat.le_of_not_lt hc) (Nat.le_of_not_lt hc)
  have h2 := isqrt_le x
  rw [← Nat.pow_add, show m + m = 2 * m from by omega] at h1
  omega
def rootq (a : Rat) (k : Nat) : Rat := ((isqrt (a.num.natAbs * 2 ^ (2 * k) / a.den) : Nat) : Rat) / 2 ^ k
def q_root (a : Rat) (k : Int) : Option (Rat × Int) := must (qs' a ∧ i64r k) (some (if k < 0 ∨ 64 < k then (0, 3) else if a < 0 then (0, 8) else (rootq a k.toNat, 0)))
theorem sz_pow (k : Nat) : sz ((2 : Rat) ^ k) ≤ k + 1 := by
  rw [← pow_rat, sz_le, Rat.num_natCast, Rat.den_natCast, Int.natAbs_natCast, blen_one]
  exact ⟨blen_pow (Nat.lt_succ_self k), by omega⟩
theorem pow_qw (k : Nat) (h : k ≤ 100000) : qw ((2 : Rat) ^ k) := by
  have := sz_pow k
  unfold qw
  generalize sz ((2 : Rat) ^ k) = t at *
  omega
theorem pow_ne (k : Nat) : (2 : Rat) ^ k ≠ 0 := by
  have : (0 : Rat) < 2 ^ k := Rat.pow_pos (by decide)
  intro h; rw [h] at this; exact Rat.lt_irrefl this
theorem root_bd {x n : Nat} (hx : blen x ≤ 400000000000) (hn : n ≤ 64) : blen (x * 2 ^ (2 * n)) ≤ 400000000129 := by
  have h1 : 2 * n < 129 := by omega
  exact Nat.le_trans (blen_mul_le hx (blen_pow h1)) (by decide)
theorem root_core (N d n : Nat) (hn : n ≤ 64) (hd : d ≠ 0) (hN : sm N) (hsd : sm d) (hb : blen (N * 2 ^ (2 * n)) ≤ 400000000129) (hq : blen (N * 2 ^ (2 * n) / d) ≤ 400000000130) :
    (n_shl N (IntKind.i64.wrap (2 * (n : Int)))).bind (fun v10 => (n_div v10 d).bind fun (v14, _) => n_root v14) = some (isqrt (N * 2 ^ (2 * n) / d)) := by
  have ew : IntKind.i64.wrap (2 * (n : Int)) = ((2 * n : Nat) : Int) := by rw [wrap_small (by omega) (by omega)]; omega
  have hk : 2 * n < 35184372088832 := by omega
  rw [ew, n_shl_eq hN hk, Option.bind_some]
  generalize N * 2 ^ (2 * n) = X at *
  rw [n_div_eq hd (sm_of hb (by omega)) hsd, Option.bind_some]
  dsimp only
  exact must_of (Nat.le_trans hq (by omega)) rfl
theorem root_qw (X : Nat) (h : blen X ≤ 400000000130) : qw ((isqrt X : Nat) : Rat) := by
  have h2 : blen (isqrt X) ≤ 200000000065 := blen_isqrt h
  refine sz_le.2 ⟨?_, by rw [Rat.den_natCast, blen_one]; omega⟩
  rw [Rat.num_natCast, Int.natAbs_natCast]
  exact Nat.le_trans h2 (by omega)
theorem root_end (X n : Nat) (hn : n ≤ 64) (hq : blen X ≤ 400000000130) : ((m_of false (isqrt X)).bind fun ((v19, v20), v21) => (m_fine (n : Int)).bind fun ((v23, v24), v25) => (m_Q_over v19 v20 v21 v23 v24 v25).bind fun ((v27, v28), v29) => some (((v27, v28), v29), (0 : Int))) = some (rp (((isqrt X : Nat) : Rat) / 2 ^ n), 0) := by
  have hf := fine_is (n : Int) ⟨by omega, by omega⟩
  have hw := pow_qw n (by omega)
  have hne := pow_ne n
  rw [Int.toNat_natCast] at hf
  rw [hf, nat_rp]
  simp only [Option.bind_some, rp]
  rw [Q_over_is _ _ hne (root_qw _ hq) hw]
  rfl
theorem Root_is (a : Rat) (k : Int) (h : qs' a) : m_Q_Root (decide (a.num < 0)) a.num.natAbs (a.den - 1) k = some (if k < 0 ∨ 64 < k then (rp 0, 3) else if a < 0 then (rp 0, 8) else (rp (rootq a k.toNat), 0)) := by
  unfold m_Q_Root
  by_cases h0 : k < 0
  · rw [if_pos (decide_eq_true h0), if_pos (.inl h0)]; rfl
  rw [if_neg (by simpa using h0)]
  by_cases h1 : 64 < k
  · rw [if_pos (decide_eq_true h1), if_pos (.inr h1)]; rfl
  obtain ⟨n, rfl⟩ : ∃ n : Nat, k = n := ⟨k.toNat, by omega⟩
  have hn64 : n ≤ 64 := by omega
  rw [if_neg (by simpa using h1), if_neg (by omega), Q_Sign_is, Option.bind_some]
  by_cases hn : a < 0
  · rw [if_pos (by unfold sgn; rw [if_pos hn]; decide), if_pos hn]; rfl
  rw [if_neg (by unfold sgn; rw [if_neg hn]; split <;> decide), if_neg hn]
  have hb := root_bd (sz_le.1 h).1 hn64
  have hq := Nat.le_trans (Nat.le_trans (blen_mono (Nat.div_le_self (a.num.natAbs * 2 ^ (2 * n)) a.den)) hb) (show 400000000129 ≤ 400000000130 by decide)
  have hc := root_core a.num.natAbs a.den n hn64 a.den_nz (qs_smn (qs_w h)) (qs_smd (qs_w h)) hb hq
  obtain ⟨v10, e10, hc⟩ := bind_some hc
  obtain ⟨⟨v14, v15⟩, e14, hc⟩ := bind_some hc
  rw [e10, Option.bind_some, Q_den_is a _ _ (qs_w h), Option.bind_some, e14, Option.bind_some]
  dsimp only at hc ⊢
  rw [hc, Option.bind_some]
  exact root_end _ n hn64 hq
theorem Q_int {a1 : Int} {r2 : Rat} (h : q_int a1 = some r2) : CtrG PP 40 [] [D.int .i64 a1] [] (qD r2) := by
  obtain ⟨h0, h⟩ := must_some h
  injection h with h; subst h
  exact C_Int (Int_is a1 h0)
theorem Q_of {a1 : Int} {a2 : Int} {r3 : Rat} {r4 : Int} (h : q_of a1 a2 = some (r3, r4)) : CtrG PP 36 [] [D.int .i64 a1, D.int .i64 a2] [] (D.tup [qD r3, D.int .i64 r4]) := by
  obtain ⟨h0, h⟩ := must_some h
  have e := Of_is a1 a2 h0.1 h0.2
  injection h with h
  by_cases hd : a2 = 0
  · rw [if_pos hd] at h e; injection h with h1 h2; subst h1; subst h2
    exact C_Of e
  · rw [if_neg hd] at h e; injection h with h1 h2; subst h1; subst h2
    exact C_Of e
theorem Q_add {a1 : Rat} {a2 : Rat} {r3 : Rat} (h : q_add a1 a2 = some r3) : CtrG PP 42 [] [qD a1, qD a2] [] (qD r3) := by
  obtain ⟨h0, h⟩ := must_some h
  injection h with h; subst h
  exact C_Q_Add (Q_Add_is a1 a2 (qs_w h0.1) (qs_w h0.2))
theorem Q_sub {a1 : Rat} {a2 : Rat} {r3 : Rat} (h : q_sub a1 a2 = some r3) : CtrG PP 44 [] [qD a1, qD a2] [] (qD r3) := by
  obtain ⟨h0, h⟩ := must_some h
  injection h with h; subst h
  exact C_Q_Sub (Q_Sub_is a1 a2 (qs_w h0.1) (qs_w h0.2))
theorem Q_mul {a1 : Rat} {a2 : Rat} {r3 : Rat} (h : q_mul a1 a2 = some r3) : CtrG PP 46 [] [qD a1, qD a2] [] (qD r3) := by
  obtain ⟨h0, h⟩ := must_some h
  injection h with h; subst h
  exact C_Q_Mul (Q_Mul_is a1 a2 (qs_w h0.1) (qs_w h0.2))
theorem Q_over {a1 : Rat} {a2 : Rat} {r3 : Rat} (h : q_over a1 a2 = some r3) : CtrG PP 164 [] [qD a1, qD a2] [] (qD r3) := by
  obtain ⟨h0, h⟩ := must_some h
  injection h with h; subst h
  exact C_Q_over (Q_over_is a1 a2 h0.1 (qs_w h0.2.1) (qs_w h0.2.2))
theorem Q_abs {a1 : Rat} {r2 : Rat} (h : q_abs a1 = some r2) : CtrG PP 50 [] [qD a1] [] (qD r2) := by
  injection h with h; subst h
  exact C_Q_Abs (Q_Abs_is a1)
theorem Q_cmp {a1 : Rat} {a2 : Rat} {r3 : Int} (h : q_cmp a1 a2 = some r3) : CtrG PP 35 [] [qD a1, qD a2] [] (D.int .i64 r3) := by
  obtain ⟨h0, h⟩ := must_some h
  injection h with h; subst h
  exact C_Q_Cmp (Q_Cmp_is a1 a2 (qs_w h0.1) (qs_w h0.2))
theorem Q_sign {a1 : Rat} {r2 : Int} (h : q_sign a1 = some r2) : CtrG PP 24 [] [qD a1] [] (D.int .i64 r2) := by
  injection h with h; subst h
  exact C_Q_Sign (Q_Sign_is a1 _)
theorem Q_den {a1 : Rat} {r2 : Rat} (h : q_den a1 = some r2) : CtrG PP 76 [] [qD a1] [] (qD r2) := by
  obtain ⟨h0, h⟩ := must_some h
  injection h with h; subst h
  exact C_Q_Den (Q_Den_is a1 _ _ (qs_w h0))
theorem Q_floor {a1 : Rat} {r2 : Rat} (h : q_floor a1 = some r2) : CtrG PP 78 [] [qD a1] [] (qD r2) := by
  obtain ⟨h0, h⟩ := must_some h
  injection h with h; subst h
  exact C_Q_Floor (Q_Floor_is a1 (qs_w h0))
theorem Q_text {a1 : Rat} {r2 : List UInt8} (h : q_text a1 = some r2) : CtrG PP 33 [] [qD a1] [] (strD r2) := by
  obtain ⟨h0, h⟩ := must_some h
  exact C_Q_Text ((Text_is a1 h0).trans h)
theorem Q_root {a1 : Rat} {a2 : Int} {r3 : Rat} {r4 : Int} (h : q_root a1 a2 = some (r3, r4)) : CtrG PP 29 [] [qD a1, D.int .i64 a2] [] (D.tup [qD r3, D.int .i64 r4]) := by
  obtain ⟨h0, h⟩ := must_some h
  have e := Root_is a1 a2 h0.1
  injection h with h
  by_cases hd : a2 < 0 ∨ 64 < a2
  · rw [if_pos hd] at h e; injection h with h1 h2; subst h1; subst h2
    exact C_Q_Root e
  · rw [if_neg hd] at h e
    by_cases hn : a1 < 0
    · rw [if_pos hn] at h e; injection h with h1 h2; subst h1; subst h2
      exact C_Q_Root e
    · rw [if_neg hn] at h e; injection h with h1 h2; subst h1; subst h2
      exact C_Q_Root e
end Go.Am
