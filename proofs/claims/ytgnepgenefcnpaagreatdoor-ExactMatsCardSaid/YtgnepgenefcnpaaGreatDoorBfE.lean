/- Part 5 of 9 of what the laws of layer 1 share: contracts of functions of the program, each for every argument of its description; no condition beyond it. -/
import Derived.Test.YtgnepgenefcnpaaGreatDoorBfD
import Derived.RangeFuncOwn
set_option linter.unusedVariables false
set_option linter.unusedSimpArgs false
namespace Go.Am
open Go.RowKit
set_option maxRecDepth 100000
noncomputable section
def m_sl_HasPrefix (a1 : List UInt8) (a2 : List UInt8) : Option Bool := (if (decide ((a1.length : Int) ≥ (a2.length : Int))) = true then must ((0 : Int) ≤ (a2.length : Int) ∧ ((a2.length : Int) : Int) ≤ (a1.length : Int)) (some ((List.take (a2.length : Int).toNat a1) == a2)) else some false)
theorem C_sl_HasPrefix {a1 : List UInt8} {a2 : List UInt8} {r5 : Bool} (h : m_sl_HasPrefix a1 a2 = some r5) : CtrG PP 238 [] [strD a1, strD a2] [] (D.bool r5) := by
  unfold m_sl_HasPrefix at h
  refine .of Go.Proofs.Tryz.func238 rfl (by kernel_rfl) rfl rfl rfl rfl rfl rfl (fun A w0 L b => ?_)
  show Ok PP _ [(0, strD a1), (1, strD a2)] [] _ _
  refine .reg (.asg rfl <| .nil) rfl ?_
  by_cases c3 : (decide ((a1.length : Int) ≥ (a2.length : Int))) = true
  · replace h := ite_pos_some c3 h
    obtain ⟨k4, h⟩ := must_some h
    refine .reg (.mv rfl <| .tlen rfl is_string <| .mv rfl <| .tlen rfl is_string <| .cm rfl rfl rfl <| .mv rfl <| .gYt rfl rfl rfl c3 <| .mv rfl <| .gYt rfl rfl rfl c3 <| .mv rfl <| .gYt rfl rfl rfl c3 <| .tlen rfl is_string <| .gYt rfl rfl rfl c3 <| .thi rfl rfl is_string k4.1 k4.2 <| .gYt rfl rfl rfl c3 <| .mv rfl <| .gYt rfl rfl rfl c3 <| .teq rfl rfl <| .pkTb rfl c3 rfl <| .asg rfl <| .nil) rfl ?_
    cases h
    refine .retG (fun _ _ hb => hb) rfl (.cons (.tmp rfl) .nil) (.refl _) trivial trivial
  · replace h := ite_neg_some c3 h
    refine .reg (.mv rfl <| .tlen rfl is_string <| .mv rfl <| .tlen rfl is_string <| .cm rfl rfl rfl <| .mv rfl <| .gNt rfl rfl rfl c3 <| .gNt rfl rfl rfl c3 <| .gNt rfl rfl rfl c3 <| .gNt rfl rfl rfl c3 <| .gNt rfl rfl rfl c3 <| .gNt rfl rfl rfl c3 <| .pkFb rfl c3 rfl <| .asg rfl <| .nil) rfl ?_
    cases h
    refine .retG (fun _ _ hb => hb) rfl (.cons (.tmp rfl) .nil) (.refl _) trivial trivial
def m_sl_CutPrefix (a1 : List UInt8) (a2 : List UInt8) : Option ((List UInt8) × Bool) := (m_sl_HasPrefix a1 a2).bind fun v3 => (if (!v3) = true then some (a1, false) else must ((0 : Int) ≤ (a2.length : Int) ∧ ((a2.length : Int) : Int) ≤ (a1.length : Int)) (some ((List.drop (a2.length : Int).toNat a1), true)))
theorem C_sl_CutPrefix {a1 : List UInt8} {a2 : List UInt8} {r7 : List UInt8} {r8 : Bool} (h : m_sl_CutPrefix a1 a2 = some (r7, r8)) : CtrG PP 209 [] [strD a1, strD a2] [] (D.tup [strD r7, D.bool r8]) := by
  unfold m_sl_CutPrefix at h
  refine .of Go.Proofs.Tryz.func209 rfl (by kernel_rfl) rfl rfl rfl rfl rfl rfl (fun A w0 L b => ?_)
  show Ok PP _ [(0, strD a1), (1, strD a2)] [] _ _
  refine .reg (.asg rfl <| .asg rfl <| .nil) rfl ?_
  refine .sq ?_
  obtain ⟨v3, e4, h⟩ := bind_some h
  refine .reg (.mv rfl <| .mv rfl <| .callG (C_sl_HasPrefix e4) ⟨rfl, rfl, trivial⟩ trivial trivial <| .not rfl <| .nil) rfl ?_
  by_cases c5 : (!v3) = true
  · replace h := ite_pos_some c5 h
    refine .cTb rfl c5 ?_
    refine .reg (.mv rfl <| .asg rfl <| .asg rfl <| .nil) rfl ?_
    cases h
    refine .retG (fun _ _ hb => hb) rfl (.cons (.tmp rfl) (.cons (.tmp rfl) .nil)) (.refl _) trivial trivial
  · replace h := ite_neg_some c5 h
    refine .cFb rfl c5 ?_
    refine .skip (Ok.on ?_)
    obtain ⟨k6, h⟩ := must_some h
    refine .reg (.mv rfl <| .mv rfl <| .tlen rfl is_string <| .tlo rfl rfl is_string k6.1 k6.2 <| .asg rfl <| .asg rfl <| .nil) rfl ?_
    cases h
    refine .retG (fun _ _ hb => hb) rfl (.cons (.tmp rfl) (.cons (.tmp rfl) .nil)) (.refl _) trivial trivial
def m_s_CutPrefix (a1 : List UInt8) (a2 : List UInt8) : Option ((List UInt8) × Bool) := (m_sl_CutPrefix a1 a2).bind fun (v3, v4) => some (v3, v4)
theorem C_s_CutPrefix {a1 : List UInt8} {a2 : List UInt8} {r6 : List UInt8} {r7 : Bool} (h : m_s_CutPrefix a1 a2 = some (r6, r7)) : CtrG PP 144 [] [strD a1, strD a2] [] (D.tup [strD r6, D.bool r7]) := by
  unfold m_s_CutPrefix at h
  refine .of Go.Proofs.Tryz.func144 rfl (by kernel_rfl) rfl rfl rfl rfl rfl rfl (fun A w0 L b => ?_)
  show Ok PP _ [(0, strD a1), (1, strD a2)] [] _ _
  refine .reg (.asg rfl <| .asg rfl <| .nil) rfl ?_
  obtain ⟨⟨v3, v4⟩, e5, h⟩ := bind_some h
  refine .reg (.mv rfl <| .mv rfl <| .callG (C_sl_CutPrefix e5) ⟨rfl, rfl, trivial⟩ trivial trivial <| .ext rfl rfl <| .ext rfl rfl <| .asg rfl <| .asg rfl <| .nil) rfl ?_
  cases h
  refine .retG (fun _ _ hb => hb) rfl (.cons (.tmp rfl) (.cons (.tmp rfl) .nil)) (.refl _) trivial trivial
def m_sl_Cut (a1 : List UInt8) (a2 : List UInt8) : Option ((List UInt8) × (List UInt8) × Bool) := (x_index a1 a2).bind fun v3 => (if (decide (v3 ≥ 0)) = true then must ((0 : Int) ≤ v3 ∧ (v3 : Int) ≤ (a1.length : Int)) (must ((0 : Int) ≤ (IntKind.i64.wrap (v3 + (a2.length : Int))) ∧ ((IntKind.i64.wrap (v3 + (a2.length : Int))) : Int) ≤ (a1.length : Int)) (some ((List.take v3.toNat a1), (List.drop (IntKind.i64.wrap (v3 + (a2.length : Int))).toNat a1), true))) else some (a1, ([] : List UInt8), false))
theorem C_sl_Cut {a1 : List UInt8} {a2 : List UInt8} {r8 : List UInt8} {r9 : List UInt8} {r10 : Bool} (h : m_sl_Cut a1 a2 = some (r8, r9, r10)) : CtrG PP 211 [] [strD a1, strD a2] [] (D.tup [strD r8, strD r9, D.bool r10]) := by
  unfold m_sl_Cut at h
  refine .of Go.Proofs.Tryz.func211 rfl (by kernel_rfl) rfl rfl rfl rfl rfl rfl (fun A w0 L b => ?_)
  show Ok PP _ [(0, strD a1), (1, strD a2)] [] _ _
  refine .reg (.asg rfl <| .asg rfl <| .asg rfl <| .nil) rfl ?_
  refine .sq ?_
  obtain ⟨v3, e4, h⟩ := bind_some h
  refine .reg (.mv rfl <| .mv rfl <| .callG (S_index e4) ⟨rfl, rfl, trivial⟩ trivial trivial <| .asg rfl <| .nil) rfl ?_
  refine .reg (.mv rfl <| .cm rfl rfl rfl <| .nil) rfl ?_
  by_cases c5 : (decide (v3 ≥ 0)) = true
  · replace h := ite_pos_some c5 h
    refine .cTb rfl c5 ?_
    obtain ⟨k6, h⟩ := must_some h
    obtain ⟨k7, h⟩ := must_some h
    refine .regD hmix (.mv rfl <| .mv rfl <| .thi rfl rfl is_string k6.1 k6.2 <| .mv rfl <| .mv rfl <| .mv rfl <| .tlen rfl is_string <| .ar rfl rfl rfl <| .tlo rfl rfl is_string k7.1 k7.2 <| .asg rfl <| .asg rfl <| .asg rfl <| .nil) rfl (by kernel_rfl) ?_
    cases h
    refine .retG (fun _ _ hb => hb) rfl (.cons (.tmp rfl) (.cons (.tmp rfl) (.cons (.tmp rfl) .nil))) (.refl _) trivial trivial
  · replace h := ite_neg_some c5 h
    refine .cFb rfl c5 ?_
    refine .skip (Ok.on ?_)
    refine .reg (.mv rfl <| .asg rfl <| .asg rfl <| .asg rfl <| .nil) rfl ?_
    cases h
    refine .retG (fun _ _ hb => hb) rfl (.cons (.tmp rfl) (.cons (.tmp rfl) (.cons (.tmp rfl) .nil))) (.refl _) trivial trivial
def m_s_Cut (a1 : List UInt8) (a2 : List UInt8) : Option ((List UInt8) × (List UInt8) × Bool) := (m_sl_Cut a1 a2).bind fun (v3, v4, v5) => some (v3, v4, v5)
theorem C_s_Cut {a1 : List UInt8} {a2 : List UInt8} {r7 : List UInt8} {r8 : List UInt8} {r9 : Bool} (h : m_s_Cut a1 a2 = some (r7, r8, r9)) : CtrG PP 146 [] [strD a1, strD a2] [] (D.tup [strD r7, strD r8, D.bool r9]) := by
  unfold m_s_Cut at h
  refine .of Go.Proofs.Tryz.func146 rfl (by kernel_rfl) rfl rfl rfl rfl rfl rfl (fun A w0 L b => ?_)
  show Ok PP _ [(0, strD a1), (1, strD a2)] [] _ _
  refine .reg (.asg rfl <| .asg rfl <| .asg rfl <| .nil) rfl ?_
  obtain ⟨⟨v3, v4, v5⟩, e6, h⟩ := bind_some h
  refine .reg (.mv rfl <| .mv rfl <| .callG (C_sl_Cut e6) ⟨rfl, rfl, trivial⟩ trivial trivial <| .ext rfl rfl <| .ext rfl rfl <| .ext rfl rfl <| .asg rfl <| .asg rfl <| .asg rfl <| .nil) rfl ?_
  cases h
  refine .retG (fun _ _ hb => hb) rfl (.cons (.tmp rfl) (.cons (.tmp rfl) (.cons (.tmp rfl) .nil))) (.refl _) trivial trivial
def m_digits (a1 : List UInt8) : Option Bool := (if (!(a1 == ([] : List UInt8))) = true then (x_trim a1 ([48, 49, 50, 51, 52, 53, 54, 55, 56, 57] : List UInt8)).bind fun v3 => some (v3 == ([] : List UInt8)) else some false)
theorem C_digits {a1 : List UInt8} {r5 : Bool} (h : m_digits a1 = some r5) : CtrG PP 149 [] [strD a1] [] (D.bool r5) := by
  unfold m_digits at h
  refine .of Go.Proofs.Tryz.func149 rfl (by kernel_rfl) rfl rfl rfl rfl rfl rfl (fun A w0 L b => ?_)
  show Ok PP _ [(0, strD a1)] [] _ _
  refine .reg (.asg rfl <| .nil) rfl ?_
  by_cases c2 : (!(a1 == ([] : List UInt8))) = true
  · replace h := ite_pos_some c2 h
    obtain ⟨v3, e4, h⟩ := bind_some h
    refine .reg (.mv rfl <| .tne rfl rfl <| .mv rfl <| .gYt rfl rfl rfl c2 <| .mv rfl <| .gYt rfl rfl rfl c2 <| .callG (S_trim e4) ⟨rfl, rfl, trivial⟩ trivial trivial <| .gYt rfl rfl rfl c2 <| .teq rfl rfl <| .pkTb rfl c2 rfl <| .asg rfl <| .nil) rfl ?_
    cases h
    refine .retG (fun _ _ hb => hb) rfl (.cons (.tmp rfl) .nil) (.refl _) trivial trivial
  · replace h := ite_neg_some c2 h
    refine .reg (.mv rfl <| .tne rfl rfl <| .mv rfl <| .gNt rfl rfl rfl c2 <| .gNt rfl rfl rfl c2 <| .gNt rfl rfl rfl c2 <| .pkFb rfl c2 rfl <| .asg rfl <| .nil) rfl ?_
    cases h
    refine .retG (fun _ _ hb => hb) rfl (.cons (.tmp rfl) .nil) (.refl _) trivial trivial
def m_isInt (a1 : List UInt8) : Option Bool := (m_digits a1).bind fun v2 => (if v2 = true then (if (a1 == ([48] : List UInt8)) = true then some true else (ix a1 0).bind fun v6 => some ((v6.toNat : Int) != 48)) else some false)
theorem C_isInt {a1 : List UInt8} {r8 : Bool} (h : m_isInt a1 = some r8) : CtrG PP 147 [] [strD a1] [] (D.bool r8) := by
  unfold m_isInt at h
  refine .of Go.Proofs.Tryz.func147 rfl (by kernel_rfl) rfl rfl rfl rfl rfl rfl (fun A w0 L b => ?_)
  show Ok PP _ [(0, strD a1)] [] _ _
  refine .reg (.asg rfl <| .nil) rfl ?_
  obtain ⟨v2, e3, h⟩ := bind_some h
  by_cases c4 : v2 = true
  · replace h := ite_pos_some c4 h
    by_cases c5 : (a1 == ([48] : List UInt8)) = true
    · replace h := ite_pos_some c5 h
      refine .reg (.mv rfl <| .callG (C_digits e3) ⟨rfl, trivial⟩ trivial trivial <| .mv rfl <| .gYt rfl rfl rfl c4 <| .mv rfl <| .gYt rfl rfl rfl c4 <| .teq rfl rfl <| .gYt rfl rfl rfl c4 <| .mv rfl <| .gNf rfl rfl rfl c5 <| .gNf rfl rfl rfl c5 <| .gNf rfl rfl rfl c5 <| .gYt rfl rfl rfl c4 <| .pkTb rfl c5 rfl <| .pkTb rfl c4 rfl <| .asg rfl <| .nil) rfl ?_
      cases h
      refine .retG (fun _ _ hb => hb) rfl (.cons (.tmp rfl) .nil) (.refl _) trivial trivial
    · replace h := ite_neg_some c5 h
      obtain ⟨v6, e7, h⟩ := bind_some h
      refine .reg (.mv rfl <| .callG (C_digits e3) ⟨rfl, trivial⟩ trivial trivial <| .mv rfl <| .gYt rfl rfl rfl c4 <| .mv rfl <| .gYt rfl rfl rfl c4 <| .teq rfl rfl <| .gYt rfl rfl rfl c4 <| .mv rfl <| .gYf rfl rfl rfl c5 <| .mv rfl <| .gYf rfl rfl rfl c5 <| .tix rfl rfl is_string (ix_some e7).1 (ix_some e7).2 <| .gYf rfl rfl rfl c5 <| .cm rfl rfl rfl <| .gYt rfl rfl rfl c4 <| .pkFb rfl c5 rfl <| .pkTb rfl c4 rfl <| .asg rfl <| .nil) rfl ?_
      cases h
      refine .retG (fun _ _ hb => hb) rfl (.cons (.tmp rfl) .nil) (.refl _) trivial trivial
  · replace h := ite_neg_some c4 h
    refine .reg (.mv rfl <| .callG (C_digits e3) ⟨rfl, trivial⟩ trivial trivial <| .mv rfl <| .gNt rfl rfl rfl c4 <| .gNt rfl rfl rfl c4 <| .gNt rfl rfl rfl c4 <| .gU rfl rfl <| .gU rfl rfl <| .gU rfl rfl <| .gNt rfl rfl rfl c4 <| .pkFb rfl c4 rfl <| .asg rfl <| .nil) rfl ?_
    cases h
    refine .retG (fun _ _ hb => hb) rfl (.cons (.tmp rfl) .nil) (.refl _) trivial trivial
def m_Parse_l1 (v27 : List UInt8) (v42 : Nat) (v43 : Int) : Option (St (Nat × Int) Nat) := (if (decide (v43 < (v27.length : Int))) = true then (n_of 10).bind fun v49 => (n_mul v42 v49).bind fun v51 => some (St.next (v51, (IntKind.i64.wrap (v43 + 1)))) else some (St.done v42))
def m_Parse (a1 : List UInt8) : Option (((Bool × Nat) × Nat) × Int) := (if (decide ((a1.length : Int) > 1000)) = true then some (((false, 0), 0), 5) else (m_s_CutPrefix a1 ([45] : List UInt8)).bind fun (v3, v4) => (n_of 1).bind fun v6 => ((m_s_Cut v3 ([47] : List UInt8)).bind fun (v10, v11, v12) => (if v12 = true then (m_isInt v10).bind fun v15 => (if (!v15) = true then some (Ex.ret (((false, 0), 0), 4)) else (m_isInt v11).bind fun v18 => (if (!v18) = true then some (Ex.ret (((false, 0), 0), 4)) else (n_text v10).bind fun v21 => (n_text v11).bind fun v23 => (if (((digs v23).length : Int) == 0) = true then some (Ex.ret (((false, 0), 0), 9)) else some (Ex.brk (v21, v23))))) else (m_s_Cut v3 ([46] : List UInt8)).bind fun (v26, v27, v28) => ((m_isInt v26).bind fun v32 => (if (!v32) = true then some (Ex.ret (((false, 0), 0), 4)) else (if v28 = true then (m_digits v27).bind fun v36 => (if (!v36) = true then some (Ex.ret (((false, 0), 0), 4)) else some (Ex.brk ())) else some (Ex.brk ())))).bind fun o30 => (match o30 with | Ex.brk () => must (v26.length + v27.length ≤ 9223372036854775807) ((n_text (v26 ++ v27)).bind fun v40 => (Loop (fun (s : Nat × Int) => m_Parse_l1 v27 s.1 s.2) (v6, 0)).bind fun v53 => some (Ex.brk (v40, v53))) | Ex.ret (((r54, r55), r56), r57) => some (Ex.ret (((r54, r55), r56), r57))))).bind fun o8 => (match o8 with | Ex.brk (v58, v59) => (m_wholeOf v4 v58).bind fun (v60, v61) => (m_quotient v60 v61 v59).bind fun ((v63, v64), v65) => some (((v63, v64), v65), 0) | Ex.ret (((r67, r68), r69), r70) => some (((r67, r68), r69), r70)))
theorem C_Parse {a1 : List UInt8} {r71 : Bool} {r72 : Nat} {r73 : Nat} {r74 : Int} (h : m_Parse a1 = some (((r71, r72), r73), r74)) : CtrG PP 23 [] [strD a1] [] (D.tup [D.agg ([D.bool r71, natD r72, natD r73]), D.int .i64 r74]) := by
  unfold m_Parse at h
  refine .of Go.Proofs.Tryz.func23 rfl (by kernel_rfl) rfl rfl rfl rfl rfl rfl (fun A w0 L b => ?_)
  show Ok PP _ [(0, strD a1)] [] _ _
  refine .reg (.alL ([D.bool false, natD 0, natD 0]) z_exact_Q ⟨.refl _, nil_nat, nil_nat, trivial⟩ rfl <| .asg rfl <| .nil) rfl ?_
  refine .sq ?_
  refine .reg (.mv rfl <| .tlen rfl is_string <| .cm rfl rfl rfl <| .nil) rfl ?_
  by_cases c2 : (decide ((a1.length : Int) > 1000)) = true
  · replace h := ite_pos_some c2 h
    refine .cTb rfl c2 ?_
    refine .reg (.bdQ ([D.bool false, natD 0, natD 0]) [] z_exact_Q pl_exact_Q trivial trivial ⟨.refl _, nil_nat, nil_nat, trivial⟩ <| .stE ([D.bool false, natD 0, natD 0]) rfl rfl rfl ly_exact_Q rfl rfl rfl <| .asg rfl <| .nil) rfl ?_
    cases h
    refine .retG (fun _ _ hb => hb) rfl (.cons (.agg rfl rfl ly_exact_Q rfl) (.cons (.tmp rfl) .nil)) (.refl _) trivial trivial
  · replace h := ite_neg_some c2 h
    refine .cFb rfl c2 ?_
    refine .skip (Ok.on ?_)
    obtain ⟨⟨v3, v4⟩, e5, h⟩ := bind_some h
    refine .reg (.mv rfl <| .callG (C_s_CutPrefix e5) ⟨rfl, rfl, trivial⟩ trivial trivial <| .mv rfl <| .ext rfl rfl <| .ext rfl rfl <| .asg rfl <| .asg rfl <| .nil) rfl ?_
    obtain ⟨v6, e7, h⟩ := bind_some h
    refine .reg (.callG (N_of e7) ⟨rfl, trivial⟩ trivial trivial <| .asg rfl <| .asg rfl <| .nil) rfl ?_
    obtain ⟨o8, hp9, h⟩ := bind_some h
    refine .cutX (fun i => o8 = Ex.brk i) (fun (i : Nat × Nat) => [(2, D.ref 2 0), (4, D.bool v4), (5, natD i.1), (6, natD i.2)]) (fun (i : Nat × Nat) => [(2, Hp.box 28 ([D.bool false, natD 0, natD 0]))]) ?_ ?_
    · have ho1 := h
      clear h
      have h := hp9
      clear hp9
      obtain ⟨⟨v10, v11, v12⟩, e13, h⟩ := bind_some h
      refine .reg (.mv rfl <| .callG (C_s_Cut e13) ⟨rfl, rfl, trivial⟩ trivial trivial <| .mv rfl <| .ext rfl rfl <| .ext rfl rfl <| .ext rfl rfl <| .asg rfl <| .asg rfl <| .asg rfl <| .nil) rfl ?_
      refine .reg (.mv rfl <| .nil) rfl ?_
      by_cases c14 : v12 = true
      · replace h := ite_pos_some c14 h
        refine .cTb rfl c14 ?_
        refine .sq ?_
        obtain ⟨v15, e16, h⟩ := bind_some h
        by_cases c17 : (!v15) = true
        · replace h := ite_pos_some c17 h
          refine .reg (.mv rfl <| .callG (C_isInt e16) ⟨rfl, trivial⟩ trivial trivial <| .not rfl <| .mv rfl <| .gNf rfl rfl rfl c17 <| .gNf rfl rfl rfl c17 <| .gNf rfl rfl rfl c17 <| .pkTb rfl c17 rfl <| .nil) rfl ?_
          refine .cTb rfl rfl ?_
          refine .reg (.bdQ ([D.bool false, natD 0, natD 0]) [] z_exact_Q pl_exact_Q trivial trivial ⟨.refl _, nil_nat, nil_nat, trivial⟩ <| .stE ([D.bool false, natD 0, natD 0]) rfl rfl rfl ly_exact_Q rfl rfl rfl <| .asg rfl <| .nil) rfl ?_
          cases h
          have h := ho1
          clear ho1
          cases h
          refine .retG (fun _ _ hb => hb) rfl (.cons (.agg rfl rfl ly_exact_Q rfl) (.cons (.tmp rfl) .nil)) (.refl _) trivial trivial
        · replace h := ite_neg_some c17 h
          obtain ⟨v18, e19, h⟩ := bind_some h
          refine .reg (.mv rfl <| .callG (C_isInt e16) ⟨rfl, trivial⟩ trivial trivial <| .not rfl <| .mv rfl <| .gYf rfl rfl rfl c17 <| .mv rfl <| .gYf rfl rfl rfl c17 <| .callG (C_isInt e19) ⟨rfl, trivial⟩ trivial trivial <| .gYf rfl rfl rfl c17 <| .not rfl <| .pkFb rfl c17 rfl <| .nil) rfl ?_
          by_cases c20 : (!v18) = true
          · replace h := ite_pos_some c20 h
            refine .cTb rfl c20 ?_
            refine .reg (.bdQ ([D.bool false, natD 0, natD 0]) [] z_exact_Q pl_exact_Q trivial trivial ⟨.refl _, nil_nat, nil_nat, trivial⟩ <| .stE ([D.bool false, natD 0, natD 0]) rfl rfl rfl ly_exact_Q rfl rfl rfl <| .asg rfl <| .nil) rfl ?_
            cases h
            have h := ho1
            clear ho1
            cases h
            refine .retG (fun _ _ hb => hb) rfl (.cons (.agg rfl rfl ly_exact_Q rfl) (.cons (.tmp rfl) .nil)) (.refl _) trivial trivial
          · replace h := ite_neg_some c20 h
            refine .cFb rfl c20 ?_
            refine .skip (Ok.on ?_)
            obtain ⟨v21, e22, h⟩ := bind_some h
            obtain ⟨v23, e24, h⟩ := bind_some h
            refine .reg (.mv rfl <| .callG (N_text e22) ⟨rfl, trivial⟩ trivial trivial <| .mv rfl <| .callG (N_text e24) ⟨rfl, trivial⟩ trivial trivial <| .asg rfl <| .asg rfl <| .nil) rfl ?_
            refine .reg (.mv rfl <| .lnD rfl is_exact_nat <| .cm rfl rfl rfl <| .nil) rfl ?_
            by_cases c25 : (((digs v23).length : Int) == 0) = true
            · replace h := ite_pos_some c25 h
              refine .cTb rfl c25 ?_
              refine .reg (.bdQ ([D.bool false, natD 0, natD 0]) [] z_exact_Q pl_exact_Q trivial trivial ⟨.refl _, nil_nat, nil_nat, trivial⟩ <| .stE ([D.bool false, natD 0, natD 0]) rfl rfl rfl ly_exact_Q rfl rfl rfl <| .asg rfl <| .nil) rfl ?_
              cases h
              have h := ho1
              clear ho1
              cases h
              refine .retG (fun _ _ hb => hb) rfl (.cons (.agg rfl rfl ly_exact_Q rfl) (.cons (.tmp rfl) .nil)) (.refl _) trivial trivial
            · replace h := ite_neg_some c25 h
              refine .cFb rfl c25 ?_
              refine .skip (fun _ _ hs => ⟨(v21, v23), (Option.some.inj h).symm, hs.sub ⟨⟨_, rfl, .refl _⟩, ⟨_, rfl, .refl _⟩, ⟨_, rfl, .refl _⟩, ⟨_, rfl, .refl _⟩, trivial⟩ ⟨⟨_, rfl, .refl _⟩, trivial⟩ rfl rfl⟩)
      · replace h := ite_neg_some c14 h
        refine .cFb rfl c14 ?_
        obtain ⟨⟨v26, v27, v28⟩, e29, h⟩ := bind_some h
        refine .reg (.mv rfl <| .callG (C_s_Cut e29) ⟨rfl, rfl, trivial⟩ trivial trivial <| .mv rfl <| .ext rfl rfl <| .ext rfl rfl <| .ext rfl rfl <| .asg rfl <| .asg rfl <| .asg rfl <| .nil) rfl ?_
        obtain ⟨o30, hp31, h⟩ := bind_some h
        refine .cutX (fun i => o30 = Ex.brk i) (fun (i : Unit) => [(2, D.ref 2 0), (4, D.bool v4), (6, natD v6), (10, strD v26), (11, strD v27)]) (fun (i : Unit) => [(2, Hp.box 28 ([D.bool false, natD 0, natD 0]))]) ?_ ?_
        · have ho2 := h
          clear h
          have h := hp31
          clear hp31
          obtain ⟨v32, e33, h⟩ := bind_some h
          by_cases c34 : (!v32) = true
          · replace h := ite_pos_some c34 h
            refine .reg (.mv rfl <| .callG (C_isInt e33) ⟨rfl, trivial⟩ trivial trivial <| .not rfl <| .mv rfl <| .gNf rfl rfl rfl c34 <| .gNf rfl rfl rfl c34 <| .gU rfl rfl <| .gU rfl rfl <| .gU rfl rfl <| .gNf rfl rfl rfl c34 <| .pkTb rfl c34 rfl <| .nil) rfl ?_
            refine .cTb rfl rfl ?_
            refine .reg (.bdQ ([D.bool false, natD 0, natD 0]) [] z_exact_Q pl_exact_Q trivial trivial ⟨.refl _, nil_nat, nil_nat, trivial⟩ <| .stE ([D.bool false, natD 0, natD 0]) rfl rfl rfl ly_exact_Q rfl rfl rfl <| .asg rfl <| .nil) rfl ?_
            cases h
            have h := ho2
            clear ho2
            cases h
            have h := ho1
            clear ho1
            cases h
            refine .retG (fun _ _ hb => hb) rfl (.cons (.agg rfl rfl ly_exact_Q rfl) (.cons (.tmp rfl) .nil)) (.refl _) trivial trivial
          · replace h := ite_neg_some c34 h
            by_cases c35 : v28 = true
            · replace h := ite_pos_some c35 h
              obtain ⟨v36, e37, h⟩ := bind_some h
              refine .reg (.mv rfl <| .callG (C_isInt e33) ⟨rfl, trivial⟩ trivial trivial <| .not rfl <| .mv rfl <| .gYf rfl rfl rfl c34 <| .mv rfl <| .gYf rfl rfl rfl c34 <| .mv rfl <| .gYt rfl rfl rfl c35 <| .mv rfl <| .gYt rfl rfl rfl c35 <| .callG (C_digits e37) ⟨rfl, trivial⟩ trivial trivial <| .gYt rfl rfl rfl c35 <| .not rfl <| .gYf rfl rfl rfl c34 <| .pkTb rfl c35 rfl <| .pkFb rfl c34 rfl <| .nil) rfl ?_
              by_cases c38 : (!v36) = true
              · replace h := ite_pos_some c38 h
                refine .cTb rfl c38 ?_
                refine .reg (.bdQ ([D.bool false, natD 0, natD 0]) [] z_exact_Q pl_exact_Q trivial trivial ⟨.refl _, nil_nat, nil_nat, trivial⟩ <| .stE ([D.bool false, natD 0, natD 0]) rfl rfl rfl ly_exact_Q rfl rfl rfl <| .asg rfl <| .nil) rfl ?_
                cases h
                have h := ho2
                clear ho2
                cases h
                have h := ho1
                clear ho1
                cases h
                refine .retG (fun _ _ hb => hb) rfl (.cons (.agg rfl rfl ly_exact_Q rfl) (.cons (.tmp rfl) .nil)) (.refl _) trivial trivial
              · replace h := ite_neg_some c38 h
                refine .cFb rfl c38 ?_
                refine .skip (fun _ _ hs => ⟨(), (Option.some.inj h).symm, hs.sub ⟨⟨_, rfl, .refl _⟩, ⟨_, rfl, .refl _⟩, ⟨_, rfl, .refl _⟩, ⟨_, rfl, .refl _⟩, ⟨_, rfl, .refl _⟩, trivial⟩ ⟨⟨_, rfl, .refl _⟩, trivial⟩ rfl rfl⟩)
            · replace h := ite_neg_some c35 h
              refine .reg (.mv rfl <| .callG (C_isInt e33) ⟨rfl, trivial⟩ trivial trivial <| .not rfl <| .mv rfl <| .gYf rfl rfl rfl c34 <| .mv rfl <| .gYf rfl rfl rfl c34 <| .mv rfl <| .gNt rfl rfl rfl c35 <| .gNt rfl rfl rfl c35 <| .gNt rfl rfl rfl c35 <| .gYf rfl rfl rfl c34 <| .pkFb rfl c35 rfl <| .pkFb rfl c34 rfl <| .nil) rfl ?_
              refine .cFb rfl (by decide) ?_
              refine .skip (fun _ _ hs => ⟨(), (Option.some.inj h).symm, hs.sub ⟨⟨_, rfl, .refl _⟩, ⟨_, rfl, .refl _⟩, ⟨_, rfl, .refl _⟩, ⟨_, rfl, .refl _⟩, ⟨_, rfl, .refl _⟩, trivial⟩ ⟨⟨_, rfl, .refl _⟩, trivial⟩ rfl rfl⟩)
        · rintro ⟨⟩ rfl
          show Ok PP _ [(2, D.ref 2 0), (4, D.bool v4), (6, natD v6), (10, strD v26), (11, strD v27)] [(2, Hp.box 28 ([D.bool false, natD 0, natD 0]))] _ _
          obtain ⟨k39, h⟩ := must_some h
          obtain ⟨v40, e41, h⟩ := bind_some h
          refine .reg (.mv rfl <| .mv rfl <| .tcat rfl rfl k39 <| .callG (N_text e41) ⟨rfl, trivial⟩ trivial trivial <| .asg rfl <| .nil) rfl ?_
          refine .reg (.mv rfl <| .tlen rfl is_string <| .mv rfl <| .nil) rfl ?_
          obtain ⟨o44, hl45, h⟩ := bind_some h
          have ho2 := h
          clear h
          refine .block (.loopL (fun (s : Nat × Int) => [(2, D.ref 2 0), (4, D.bool v4), (5, natD v40), (6, natD s.1), (70, D.int .i64 (v27.length : Int)), (71, D.int .i64 s.2)]) (fun (s : Nat × Int) => [(2, Hp.box 28 ([D.bool false, natD 0, natD 0]))]) hl45 ⟨⟨_, rfl, .refl _⟩, ⟨_, rfl, .refl _⟩, ⟨_, rfl, .refl _⟩, ⟨_, rfl, .refl _⟩, ⟨_, rfl, .refl _⟩, ⟨_, rfl, .refl _⟩, trivial⟩ ⟨⟨_, rfl, .refl _⟩, trivial⟩ rfl rfl ?_)
          rintro ⟨v42, v43⟩ st46 hb47
          have h : m_Parse_l1 v27 v42 v43 = some st46 := hb47
          clear hb47
          unfold m_Parse_l1 at h
          show Ok PP _ [(2, D.ref 2 0), (4, D.bool v4), (5, natD v40), (6, natD v42), (70, D.int .i64 (v27.length : Int)), (71, D.int .i64 v43)] [(2, Hp.box 28 ([D.bool false, natD 0, natD 0]))] _ _
          refine .reg (.cm rfl rfl rfl <| .nil) rfl ?_
          refine .sq ?_
          by_cases c48 : (decide (v43 < (v27.length : Int))) = true
          · replace h := ite_pos_some c48 h
            refine .cTb rfl c48 ?_
            refine .skip (Ok.on ?_)
            refine .sq ?_
            refine .block ?_
            obtain ⟨v49, e50, h⟩ := bind_some h
            obtain ⟨v51, e52, h⟩ := bind_some h
            refine .region (.mv rfl <| .callG (N_of e50) ⟨rfl, trivial⟩ trivial trivial <| .callG (N_mul e52) ⟨rfl, rfl, trivial⟩ trivial trivial <| .asg rfl <| .nil) rfl (Ok.on ?_)
            refine .region (.ar rfl rfl rfl <| .mv rfl <| .nil) rfl (fun _ _ hs => ⟨(v51, (IntKind.i64.wrap (v43 + 1))), (Option.some.inj h).symm, hs.sub ⟨⟨_, rfl, .refl _⟩, ⟨_, rfl, .refl _⟩, ⟨_, rfl, .refl _⟩, ⟨_, rfl, .refl _⟩, ⟨_, rfl, .refl _⟩, ⟨_, rfl, .refl _⟩, trivial⟩ ⟨⟨_, rfl, .refl _⟩, trivial⟩ rfl rfl⟩)
          · replace h := ite_neg_some c48 h
            refine .cFb rfl c48 ?_
            refine .exit (fun a w hs => ⟨_, (Option.some.inj h).symm, fun e => by subst e; have h := ho2; exact blk_exit (⟨(v40, v42), (Option.some.inj h).symm, hs.sub ⟨⟨_, rfl, .refl _⟩, ⟨_, rfl, .refl _⟩, ⟨_, rfl, .refl _⟩, ⟨_, rfl, .refl _⟩, trivial⟩ ⟨⟨_, rfl, .refl _⟩, trivial⟩ rfl rfl⟩)⟩)
    · rintro ⟨v58, v59⟩ rfl
      show Ok PP _ [(2, D.ref 2 0), (4, D.bool v4), (5, natD v58), (6, natD v59)] [(2, Hp.box 28 ([D.bool false, natD 0, natD 0]))] _ _
      obtain ⟨⟨v60, v61⟩, e62, h⟩ := bind_some h
      obtain ⟨⟨⟨v63, v64⟩, v65⟩, e66, h⟩ := bind_some h
      refine .reg (.mv rfl <| .mv rfl <| .callG (C_wholeOf e62) ⟨rfl, rfl, trivial⟩ trivial trivial <| .mv rfl <| .callG (C_quotient e66) ⟨rfl, rfl, trivial⟩ trivial trivial <| .stE ([D.bool v63, natD v64, natD v65]) rfl rfl rfl ly_exact_Q rfl rfl rfl <| .asg rfl <| .nil) rfl ?_
      cases h
      refine .retG (fun _ _ hb => hb) rfl (.cons (.agg rfl rfl ly_exact_Q rfl) (.cons (.tmp rfl) .nil)) (.refl _) trivial trivial
end
end Go.Am
namespace Go.Am
open Go.RowKit
def dig (s : List UInt8) : Bool := !s.isEmpty && s.all fun b => decide (48 ≤ b.toNat) && decide (b.toNat ≤ 57)
def intT (s : List UInt8) : Bool := dig s && (s == [48] || !(s.head? == some 48))
def cutB (c : UInt8) : List UInt8 → List UInt8 × List UInt8 × Bool
  | [] => ([], [], false)
  | b :: l => if b = c then ([], l, true) else (b :: (cutB c l).1, (cutB c l).2.1, (cutB c l).2.2)
theorem dig_decs {s : List UInt8} (h : dig s = true) : decs s ∧ s ≠ [] := by
  unfold dig at h
  rw [Bool.and_eq_true] at h
  refine ⟨fun b hb => ?_, fun e => by rw [e] at h; simp at h⟩
  have := List.all_eq_true.1 h.2 b hb
  simp only [Bool.and_eq_true, decide_eq_true_eq] at this
  exact this
theorem cutB_len (c : UInt8) : ∀ l, (cutB c l).1.length + (cutB c l).2.1.length ≤ l.length
  | [] => Nat.le_refl _
  | b :: l => by
    have := cutB_len c l
    unfold cutB
    split
    · simp only [List.length_nil, List.length_cons]; omega
    · simp only [List.length_cons]; omega
theorem cutB_not (c : UInt8) : ∀ l, (cutB c l).2.2 = false → cutB c l = (l, [], false)
  | [], _ => rfl
  | b :: l, h => by
    unfold cutB at h ⊢
    by_cases e : b = c
    · rw [if_pos e] at h; cases h
    · rw [if_neg e] at h ⊢
      rw [cutB_not c l h]
theorem dropWhile_nil {α : Type} (p : α → Bool) : ∀ (l : List α), l.dropWhile p = [] ↔ ∀ x ∈ l, p x = true
  | [] => by simp
  | a :: l => by
    by_cases h : p a = true
    · rw [List.dropWhile_cons_of_pos h, dropWhile_nil p l]; simp [h]
    · rw [List.dropWhile_cons_of_neg h]; simp [h]
theorem dropWhile_head {α : Type} (p : α → Bool) : ∀ (l : List α) (x : α) (m : List α), l.dropWhile p = x :: m → ¬ p x = true
  | [], x, m, h => by cases h
  | a :: l, x, m, h => by
    by_cases hp : p a = true
    · rw [List.dropWhile_cons_of_pos hp] at h; exact dropWhile_head p l x m h
    · rw [List.dropWhile_cons_of_neg hp] at h; injection h with h1 h2; subst h1; exact hp
theorem trimS_nil (l cs : List UInt8) : Lib.trimS l cs = [] ↔ ∀ b ∈ l, cs.contains b = true := by
  unfold Lib.trimS Lib.trimLeftS Lib.trimRightS
  rw [dropWhile_nil]
  have hr := dropWhile_nil (cs.contains ·) l.reverse
  constructor
  · intro h
    cases e : l.reverse.dropWhile (cs.contains ·) with
    | nil =>
      rw [e] at hr
      intro b hb
      exact hr.1 rfl b (List.mem_reverse.2 hb)
    | cons x m =>
      exfalso
      refine dropWhile_head _ _ _ _ e (h x ?_)
      rw [e]; simp
  · intro h
    have : l.reverse.dropWhile (cs.contains ·) = [] := hr.2 fun b hb => h b (List.mem_reverse.1 hb)
    rw [this]; simp
theorem digit_in (b : UInt8) : ([48, 49, 50, 51, 52, 53, 54, 55, 56, 57] : List UInt8).contains b = (decide (48 ≤ b.toNat) && decide (b.toNat ≤ 57)) := by
  have key : ∀ n : Nat, n < 256 → ([48, 49, 50, 51, 52, 53, 54, 55, 56, 57] : List UInt8).contains (UInt8.ofNat n) = (decide (48 ≤ n) && decide (n ≤ 57)) := by decide +kernel
  have := key b.toNat b.toNat_lt
  rw [UInt8.ofNat_toNat] at this
  exact this
theorem digits_is (s : List UInt8) (hl : s.length ≤ 1000000) : m_digits s = some (dig s) := by
  unfold m_digits dig
  cases s with
  | nil => rfl
  | cons a t =>
    have h1 : (!((a :: t) == ([] : List UInt8))) = true := rfl
    rw [if_pos h1]
    have h2 : x_trim (a :: t) ([48, 49, 50, 51, 52, 53, 54, 55, 56, 57] : List UInt8) = some (Lib.trimS (a :: t) [48, 49, 50, 51, 52, 53, 54, 55, 56, 57]) := must_of ⟨by omega, by decide, by decide⟩ rfl
    rw [h2, Option.bind_some]
    congr 1
    have h3 := trimS_nil (a :: t) [48, 49, 50, 51, 52, 53, 54, 55, 56, 57]
    simp only [digit_in] at h3
    have h4 : (!(a :: t).isEmpty) = true := rfl
    rw [h4, Bool.true_and]
    by_cases e : Lib.trimS (a :: t) [48, 49, 50, 51, 52, 53, 54, 55, 56, 57] = []
    · rw [e, List.all_eq_true.2 (h3.1 e)]; rfl
    · have h5 : ((a :: t).all fun b => decide (48 ≤ b.toNat) && decide (b.toNat ≤ 57)) = false := by
        apply Bool.eq_false_iff.2
        intro h; exact e (h3.2 (List.all_eq_true.1 h))
      rw [h5, beq_eq_false_iff_ne]; exact e
theorem isInt_is (s : List UInt8) (hl : s.length ≤ 1000000) : m_isInt s = some (intT s) := by
  unfold m_isInt intT
  rw [digits_is s hl, Option.bind_some]
  by_cases hd : dig s = true
  · rw [if_pos hd, hd, Bool.true_and]
    by_cases h0 : (s == ([48] : List UInt8)) = true
    · rw [if_pos h0, h0]; rfl
    · rw [if_neg h0]
      have h0' : (s == ([48] : List UInt8)) = false := by simpa using h0
      rw [h0', Bool.false_or]
      obtain ⟨_, hne⟩ := dig_decs hd
      cases s with
      | nil => exact absurd rfl hne
      | cons a t =>
        have : ix (a :: t) 0 = some a := rfl
        rw [this, Option.bind_some, List.head?_cons]
        congr 1
        by_cases e : a = 48
        · subst e; rfl
        · have h1 : ((a.toNat : Int) != 48) = true := by
            rw [bne_iff_ne]
            intro h
            apply e
            apply UInt8.toNat_inj.1
            rw [show (48 : UInt8).toNat = 48 from rfl]; omega
          have h2 : ((some a == some (48 : UInt8))) = false := by
            rw [beq_eq_false_iff_ne]; intro h; injection h with h; exact e h
          rw [h1, h2]; rfl
  · rw [if_neg hd]
    have : dig s = false := by simpa using hd
    rw [this]; rfl
theorem cut_idx (c : UInt8) : ∀ l, (cutB c l = if Lib.indexByte l c = -1 then (l, [], false) else (l.take (Lib.indexByte l c).toNat, l.drop ((Lib.indexByte l c).toNat + 1), true)) ∧ -1 ≤ Lib.indexByte l c ∧ Lib.indexByte l c < (l.length : Int)
  | [] => by simp [cutB, Lib.indexByte]
  | b :: l => by
    obtain ⟨h1, h2, h3⟩ := cut_idx c l
    have hv : Lib.indexByte (b :: l) c = if b == c then 0 else if Lib.indexByte l c == -1 then -1 else Lib.indexByte l c + 1 := rfl
    rw [hv]
    unfold cutB
    by_cases e : b = c
    · have e' : (b == c) = true := by simpa using e
      rw [if_pos e, if_pos e']
      refine ⟨?_, by omega, by simp only [List.length_cons]; omega⟩
      rw [if_neg (by decide)]; rfl
    · have e' : ¬ (b == c) = true := by simpa using e
      rw [if_neg e, if_neg e', h1]
      by_cases h0 : Lib.indexByte l c = -1
      · have h0' : (Lib.indexByte l c == -1) = true := by simpa using h0
        rw [if_pos h0', if_pos h0, if_pos rfl]
        exact ⟨rfl, by omega, by simp only [List.length_cons]; omega⟩
      · have h0' : ¬ (Lib.indexByte l c == -1) = true := by simpa using h0
        rw [if_neg h0', if_neg h0, if_neg (by omega)]
        have h4 : (Lib.indexByte l c + 1).toNat = (Lib.indexByte l c).toNat + 1 := by omega
        refine ⟨?_, by omega, by simp only [List.length_cons]; omega⟩
        rw [h4]; rfl
theorem Cut_is (s : List UInt8) (c : UInt8) (hl : s.length ≤ 1000000) : m_s_Cut s [c] = some (cutB c s) := by
  obtain ⟨h1, h2, h3⟩ := cut_idx c s
  unfold m_s_Cut m_sl_Cut
  have hx : x_index s [c] = some (Lib.indexByte s c) := must_of rfl rfl
  rw [hx, h1]
  simp only [Option.bind_some]
  by_cases h0 : Lib.indexByte s c = -1
  · rw [if_neg (by rw [h0]; decide), if_pos h0]; rfl
  · rw [if_pos (decide_eq_true (by omega)), if_neg h0]
    have e : IntKind.i64.wrap (Lib.indexByte s c + (([c] : List UInt8).length : Int)) = Lib.indexByte s c + 1 := i64_in (by simp only [List.length_cons, List.length_nil]; omega)
    rw [e, must_eq (by omega), must_eq (by omega)]
    have h4 : (Lib.indexByte s c + 1).toNat = (Lib.indexByte s c).toNat + 1 := by omega
    rw [h4]; rfl
theorem CutMinus_is (s : List UInt8) (hl : s.length ≤ 1000000) : m_s_CutPrefix s [45] = some (if s.head? = some 45 then (s.drop 1, true) else (s, false)) := by
  unfold m_s_CutPrefix m_sl_CutPrefix m_sl_HasPrefix
  cases s with
  | nil => rfl
  | cons a t =>
    rw [if_pos (decide_eq_true (by simp only [List.length_cons, List.length_nil]; omega)), must_eq (by simp only [List.length_cons, List.length_nil]; omega)]
    simp only [Option.bind_some]
    have h1 : (List.take ((([45] : List UInt8).length : Nat) : Int).toNat (a :: t) == ([45] : List UInt8)) = (a == 45) := by
      show ([a] == [45]) = (a == 45)
      by_cases e : a = 45
      · subst e; rfl
      · have h2 : (a == 45) = false := by simpa using e
        rw [h2, beq_eq_false_iff_ne]; intro h; injection h with h; exact e h
    rw [h1]
    by_cases e : a = 45
    · subst e
      rw [if_neg (by decide), must_eq (by simp only [List.length_cons, List.length_nil]; omega), if_pos (show (45 :: t).head? = some 45 from rfl)]; rfl
    · have h2 : (a == 45) = false := by simpa using e
      have h3 : ¬ (a :: t).head? = some 45 := by intro h; injection h with h; exact e h
      rw [h2, if_neg h3]; rfl
def parseU (neg : Bool) (t : List UInt8) : Rat × Int :=
  if (cutB 47 t).2.2 then
    if !intT (cutB 47 t).1 then (0, 4) else if !intT (cutB 47 t).2.1 then (0, 4) else if decv (cutB 47 t).2.1 = 0 then (0, 9) else (mkRat (sg neg (decv (cutB 47 t).1)) (decv (cutB 47 t).2.1), 0)
  else if !intT (cutB 46 t).1 then (0, 4) else if (cutB 46 t).2.2 && !dig (cutB 46 t).2.1 then (0, 4)
  else (mkRat (sg neg (decv ((cutB 46 t).1 ++ (cutB 46 t).2.1))) (10 ^ (cutB 46 t).2.1.length), 0)
def parseQ (s : List UInt8) : Rat × Int := if 1000 < s.length then (0, 5) else if s.head? = some 45 then parseU true (s.drop 1) else parseU false s
theorem tens_is (a : List UInt8) (hl : a.length ≤ 1000) : Loop (fun (s : Nat × Int) => m_Parse_l1 a s.1 s.2) (1, 0) = some (10 ^ a.length) := by
  have hb : ∀ i, i ≤ 1000 → sm (10 ^ i) := by
    intro i hi
    have h1 : 10 ^ i < 2 ^ (4 * i + 1) := Nat.lt_of_le_of_lt (Nat.pow_le_pow_left (show 10 ≤ 16 by decide) i) (by rw [show (16 : Nat) = 2 ^ 4 from rfl, ← Nat.pow_mul]; exact Nat.pow_lt_pow_right (by decide) (by omega))
    exact sm_of (blen_le_iff.2 h1) (by omega)
  obtain ⟨r, hr, rfl⟩ := Loop_run (body := fun (s : Nat × Int) => m_Parse_l1 a s.1 s.2) (1, 0) (fun s => ∃ i : Nat, i ≤ a.length ∧ s = (10 ^ i, (i : Int))) (fun s => (a.length - s.2).toNat) (fun r => r = 10 ^ a.length) ⟨0, Nat.zero_le _, rfl⟩ (by
    rintro s ⟨i, hi, rfl⟩
    simp only
    unfold m_Parse_l1
    by_cases h : i < a.length
    · left
      have e10 : n_of (10 : Int) = some 10 := n_of_eq (n := 10) (by omega)
      rw [if_pos (decide_eq_true (by omega)), e10, Option.bind_some, n_mul_eq (hb i (by omega)) (sm_small (by decide)), Option.bind_some]
      have e4 : IntKind.i64.wrap ((i : Int) + 1) = ((i + 1 : Nat) : Int) := by rw [i64_in (by omega)]; omega
      rw [e4]
      exact ⟨_, rfl, ⟨i + 1, h, by rw [Nat.pow_succ]⟩, by simp only; omega⟩
    · right
      rw [if_neg (by simp; omega)]
      exact ⟨_, rfl, by rw [show i = a.length from by omega]⟩)
  exact hr
theorem n_text_eq {s : List UInt8} (h : dig s = true) (hl : s.length ≤ 1000) : n_text s = some (decv s) := must_of ⟨by omega, (dig_decs h).1⟩ rfl
theorem decv_sm' {s : List UInt8} (h : dig s = true) (hl : s.length ≤ 2000) : sm (decv s) := sm_of (decv_sm (dig_decs h).1 (by omega)) (by omega)
theorem ten_sm {n : Nat} (h : n ≤ 1000) : sm (10 ^ n) := by
  have h1 : 10 ^ n < 2 ^ (4 * n + 1) := Nat.lt_of_le_of_lt (Nat.pow_le_pow_left (show 10 ≤ 16 by decide) n) (by rw [show (16 : Nat) = 2 ^ 4 from rfl, ← Nat.pow_mul]; exact Nat.pow_lt_pow_right (by decide) (by omega))
  exact sm_of (blen_le_iff.2 h1) (by omega)
theorem intT_dig {s : List UInt8} (h : intT s = true) : dig s = true := by unfold intT at h; rw [Bool.and_eq_true] at h; exact h.1
theorem dig_append {a b : List UInt8} (h : dig a = true) (k : dig b = true) : dig (a ++ b) = true := by
  unfold dig at *
  rw [Bool.and_eq_true] at *
  refine ⟨?_, by rw [List.all_append, h.2, k.2]; rfl⟩
  cases a with
  | nil => simp at h
  | cons x l => rfl
theorem fin_is (neg : Bool) (n d : Nat) (hd : d ≠ 0) (hn : sm n) (hs : sm d) : ((m_wholeOf neg n).bind fun (v60, v61) => (m_quotient v60 v61 d).bind fun ((v63, v64), v65) => some (((v63, v64), v65), (0 : Int))) = some (rp (mkRat (sg neg n) d), 0) := by
  rw [wholeOf_is, Option.bind_some]
  dsimp only
  rw [quotient_is _ _ hd (by rw [sg_abs]; exact hn) hs]; rfl
theorem ParseU_is (neg : Bool) (t : List UInt8) (hl : t.length ≤ 1000) :
    ((m_s_Cut t ([47] : List UInt8)).bind fun (v10, v11, v12) => (if v12 = true then (m_isInt v10).bind fun v15 => (if (!v15) = true then some (Ex.ret (((false, 0), 0), 4)) else (m_isInt v11).bind fun v18 => (if (!v18) = true then some (Ex.ret (((false, 0), 0), 4)) else (n_text v10).bind fun v21 => (n_text v11).bind fun v23 => (if (((digs v23).length : Int) == 0) = true then some (Ex.ret (((false, 0), 0), 9)) else some (Ex.brk (v21, v23))))) else (m_s_Cut t ([46] : List UInt8)).bind fun (v26, v27, v28) => ((m_isInt v26).bind fun v32 => (if (!v32) = true then some (Ex.ret (((false, 0), 0), 4)) else (if v28 = true then (m_digits v27).bind fun v36 => (if (!v36) = true then some (Ex.ret (((false, 0), 0), 4)) else some (Ex.brk ())) else some (Ex.brk ())))).bind fun o30 => (match o30 with | Ex.brk () => must (v26.length + v27.length ≤ 9223372036854775807) ((n_text (v26 ++ v27)).bind fun v40 => (Loop (fun (s : Nat × Int) => m_Parse_l1 v27 s.1 s.2) (1, 0)).bind fun v53 => some (Ex.brk (v40, v53))) | Ex.ret (((r54, r55), r56), r57) => some (Ex.ret (((r54, r55), r56), r57)))) : Option (Ex (Nat × Nat) (((Bool × Nat) × Nat) × Nat))).bind (fun o8 => (match o8 with | Ex.brk (v58, v59) => (m_wholeOf neg v58).bind fun (v60, v61) => (m_quotient v60 v61 v59).bind fun ((v63, v64), v65) => some (((v63, v64), v65), (0 : Int)) | Ex.ret (((r67, r68), r69), r70) => some (((r67, r68), r69), (r70 : Int))))
    = some (rp (parseU neg t).1, (parseU neg t).2) := by
  have c1 := cutB_len 47 t
  have c2 := cutB_len 46 t
  have hn46 := cutB_not 46 t
  rw [Cut_is t 47 (by omega), Cut_is t 46 (by omega)]
  unfold parseU
  generalize cutB 47 t = A at *
  generalize cutB 46 t = B at *
  obtain ⟨b, a, f⟩ := A
  obtain ⟨b', a', f'⟩ := B
  simp only at c1 c2 hn46
  simp only [Option.bind_some]
  cases f
  · simp only [Option.bind_some, Bool.false_eq_true, if_false, if_true, Bool.not_true, Bool.not_false, Bool.false_and, Bool.true_and]
    rw [isInt_is _ (by omega), digits_is _ (by omega)]
    cases h1 : intT b'
    · simp only [Option.bind_some, Bool.false_eq_true, if_false, if_true, Bool.not_true, Bool.not_false, Bool.false_and, Bool.true_and]; rfl
    · have d1 := intT_dig h1
      cases f'
      · have hn := hn46 rfl
        injection hn with e1 hn
        injection hn with e2 _
        subst e1; subst e2
        simp only [Option.bind_some, Bool.false_eq_true, if_false, if_true, Bool.not_true, Bool.not_false, Bool.false_and, Bool.true_and]
        rw [must_eq (by simp only [List.length_nil]; omega), n_text_eq (by rw [List.append_nil]; exact d1) (by rw [List.append_nil]; exact hl), Option.bind_some, tens_is _ (by decide), Option.bind_some, Option.bind_some]
        dsimp only
        have hfin := fin_is neg (decv (b' ++ [])) (10 ^ ([] : List UInt8).length) (by decide) (decv_sm' (by rw [List.append_nil]; exact d1) (by rw [List.append_nil]; omega)) (ten_sm (by decide))
        exact hfin
      · cases h3 : dig a'
        · simp only [Option.bind_some, Bool.false_eq_true, if_false, if_true, Bool.not_true, Bool.not_false, Bool.false_and, Bool.true_and]; rfl
        · simp only [Option.bind_some, Bool.false_eq_true, if_false, if_true, Bool.not_true, Bool.not_false, Bool.false_and, Bool.true_and]
          have d2 := dig_append d1 h3
          have hl2 : (b' ++ a').length ≤ 1000 := by rw [List.length_append]; omega
          rw [must_eq (by omega), n_text_eq d2 hl2, Option.bind_some, tens_is _ (by omega), Option.bind_some, Option.bind_some]
          dsimp only
          have hfin := fin_is neg (decv (b' ++ a')) (10 ^ a'.length) (Nat.pos_iff_ne_zero.1 (Nat.pow_pos (by decide))) (decv_sm' d2 (by omega)) (ten_sm (by omega))
          exact hfin
  · simp only [Option.bind_some, Bool.false_eq_true, if_false, if_true, Bool.not_true, Bool.not_false, Bool.false_and, Bool.true_and]
    rw [isInt_is _ (by omega), isInt_is _ (by omega)]
    cases h1 : intT b
    · simp only [Option.bind_some, Bool.false_eq_true, if_false, if_true, Bool.not_true, Bool.not_false, Bool.false_and, Bool.true_and]; rfl
    · cases h2 : intT a
      · simp only [Option.bind_some, Bool.false_eq_true, if_false, if_true, Bool.not_true, Bool.not_false, Bool.false_and, Bool.true_and]; rfl
      · have d1 := intT_dig h1
        have d2 := intT_dig h2
        simp only [Option.bind_some, Bool.false_eq_true, if_false, if_true, Bool.not_true, Bool.not_false, Bool.false_and, Bool.true_and]
        rw [n_text_eq d1 (by omega), n_text_eq d2 (by omega)]
        simp only [Option.bind_some, Bool.false_eq_true, if_false, if_true, Bool.not_true, Bool.not_false, Bool.false_and, Bool.true_and]
        rw [len_zero_iff]
        by_cases h0 : decv a = 0
        · rw [if_pos (decide_eq_true h0), if_pos h0]; rfl
        · rw [if_neg (by simpa using h0), if_neg h0]
          have hfin := fin_is neg _ _ h0 (decv_sm' d1 (by omega)) (decv_sm' d2 (by omega))
          exact hfin
theorem Parse_is (s : List UInt8) (hs : s.length ≤ 9223372036854775807) : m_Parse s = some (rp (parseQ s).1, (parseQ s).2) := by
  unfold m_Parse parseQ
  by_cases h : 1000 < s.length
  · rw [if_pos (decide_eq_true (by omega)), if_pos h]; rfl
  · rw [if_neg (by simp; omega), if_neg h, CutMinus_is s (by omega), one_of]
    by_cases hm : s.head? = some 45
    · rw [if_pos hm, if_pos hm]
      simp only [Option.bind_some]
      exact ParseU_is true (s.drop 1) (by rw [List.length_drop]; omega)
    · rw [if_neg hm, if_neg hm]
      simp only [Option.bind_some]
      exact ParseU_is false s (by omega)
def q_parse (s : List UInt8) : Option (Rat × Int) := must (s.length ≤ 9223372036854775807) (some (parseQ s))
theorem Q_parse {a1 : List UInt8} {r2 : Rat} {r3 : Int} (h : q_parse a1 = some (r2, r3)) : CtrG PP 23 [] [strD a1] [] (D.tup [qD r2, D.int .i64 r3]) := by
  obtain ⟨h0, h⟩ := must_some h
  have e := Parse_is a1 h0
  injection h with h
  rw [h] at e
  exact C_Parse e
end Go.Am
namespace Go.Am
open Go.RowKit
end Go.Am
namespace Go.Am
open Go.RowKit
set_option maxRecDepth 100000
noncomputable section
def m_nearer (a1 : Rat) (a2 : Rat) (a3 : Rat) : Option Rat := (q_sub a2 a1).bind fun v4 => (q_abs v4).bind fun v6 => (q_sub a3 a1).bind fun v8 => (q_abs v8).bind fun v10 => (q_cmp v6 v10).bind fun v12 => ((if (v12 == 0) = true then (q_den a2).bind fun v17 => (q_den a3).bind fun v19 => (q_cmp v17 v19).bind fun v21 => some (v21) else some (v12))).bind fun v23 => ((if (decide (v23 < 0)) = true then some (Ex.ret a2) else (if (v23 == 0) = true then (q_cmp a2 a3).bind fun v28 => (if (decide (v28 < 0)) = true then some (Ex.ret a2) else some (Ex.brk ())) else some (Ex.brk ())))).bind fun o24 => (match o24 with | Ex.brk () => some a3 | Ex.ret r31 => some r31)
theorem C_nearer {a1 : Rat} {a2 : Rat} {a3 : Rat} {r32 : Rat} (h : m_nearer a1 a2 a3 = some r32) : CtrG PP 165 [] [qD a1, qD a2, qD a3] [] (qD r32) := by
  unfold m_nearer at h
  refine .of Go.Proofs.Tryz.func165 rfl (by kernel_rfl) rfl rfl rfl rfl rfl rfl (fun A w0 L b => ?_)
  show Ok PP _ [(0, qD a1), (1, qD a2), (2, qD a3)] [] _ _
  refine .reg (.bxA rfl rfl <| .bxA rfl rfl <| .bxA rfl rfl <| .alL (qC (0)) z_exact_Q ⟨zq1, zq2, zq3, trivial⟩ rfl <| .nil) rfl ?_
  obtain ⟨v4, e5, h⟩ := bind_some h
  obtain ⟨v6, e7, h⟩ := bind_some h
  obtain ⟨v8, e9, h⟩ := bind_some h
  obtain ⟨v10, e11, h⟩ := bind_some h
  obtain ⟨v12, e13, h⟩ := bind_some h
  refine .regD hmix (.ldE (qC (a2)) rfl rfl ly_exact_Q rfl rfl <| .ldE (qC (a1)) rfl rfl ly_exact_Q rfl rfl <| .callG (Q_sub e5) ⟨rfl, rfl, trivial⟩ trivial trivial <| .callG (Q_abs e7) ⟨rfl, trivial⟩ trivial trivial <| .ldE (qC (a3)) rfl rfl ly_exact_Q rfl rfl <| .ldE (qC (a1)) rfl rfl ly_exact_Q rfl rfl <| .callG (Q_sub e9) ⟨rfl, rfl, trivial⟩ trivial trivial <| .callG (Q_abs e11) ⟨rfl, trivial⟩ trivial trivial <| .callG (Q_cmp e13) ⟨rfl, rfl, trivial⟩ trivial trivial <| .asg rfl <| .nil) rfl (by kernel_rfl) ?_
  obtain ⟨v23, hp15, h⟩ := bind_some h
  refine .cutX (fun i => v23 = i) (fun (i : Int) => [(4, D.ref 4 0), (5, D.ref 5 0), (6, D.ref 6 0), (7, D.int .i64 i)]) (fun (i : Int) => [(4, Hp.box 28 (qC (a2))), (5, Hp.box 28 (qC (a3))), (6, Hp.box 28 (qC (0)))]) ?_ ?_
  · have ho1 := h
    clear h
    have h := hp15
    clear hp15
    refine .reg (.mv rfl <| .cm rfl rfl rfl <| .nil) rfl ?_
    by_cases c16 : (v12 == 0) = true
    · replace h := ite_pos_some c16 h
      refine .cTb rfl c16 ?_
      obtain ⟨v17, e18, h⟩ := bind_some h
      obtain ⟨v19, e20, h⟩ := bind_some h
      obtain ⟨v21, e22, h⟩ := bind_some h
      refine .regionD hmix (.ldE (qC (a2)) rfl rfl ly_exact_Q rfl rfl <| .callG (Q_den e18) ⟨rfl, trivial⟩ trivial trivial <| .ldE (qC (a3)) rfl rfl ly_exact_Q rfl rfl <| .callG (Q_den e20) ⟨rfl, trivial⟩ trivial trivial <| .callG (Q_cmp e22) ⟨rfl, rfl, trivial⟩ trivial trivial <| .asg rfl <| .nil) rfl (by kernel_rfl) (fun _ _ hs => ⟨v21, (Option.some.inj h).symm, hs.sub ⟨⟨_, rfl, .refl _⟩, ⟨_, rfl, .refl _⟩, ⟨_, rfl, .refl _⟩, ⟨_, rfl, .refl _⟩, trivial⟩ ⟨⟨_, rfl, .refl _⟩, ⟨_, rfl, .refl _⟩, ⟨_, rfl, .refl _⟩, trivial⟩ rfl rfl⟩)
    · replace h := ite_neg_some c16 h
      refine .cFb rfl c16 ?_
      refine .skip (fun _ _ hs => ⟨v12, (Option.some.inj h).symm, hs.sub ⟨⟨_, rfl, .refl _⟩, ⟨_, rfl, .refl _⟩, ⟨_, rfl, .refl _⟩, ⟨_, rfl, .refl _⟩, trivial⟩ ⟨⟨_, rfl, .refl _⟩, ⟨_, rfl, .refl _⟩, ⟨_, rfl, .refl _⟩, trivial⟩ rfl rfl⟩)
  · rintro _ rfl
    show Ok PP _ [(4, D.ref 4 0), (5, D.ref 5 0), (6, D.ref 6 0), (7, D.int .i64 v23)] [(4, Hp.box 28 (qC (a2))), (5, Hp.box 28 (qC (a3))), (6, Hp.box 28 (qC (0)))] _ _
    obtain ⟨o24, hp25, h⟩ := bind_some h
    refine .cutX (fun i => o24 = Ex.brk i) (fun (i : Unit) => [(5, D.ref 5 0), (6, D.ref 6 0)]) (fun (i : Unit) => [(5, Hp.box 28 (qC (a3))), (6, Hp.box 28 (qC (0)))]) ?_ ?_
    · have ho1 := h
      clear h
      have h := hp25
      clear hp25
      by_cases c26 : (decide (v23 < 0)) = true
      · replace h := ite_pos_some c26 h
        refine .reg (.mv rfl <| .cm rfl rfl rfl <| .mv rfl <| .gNf rfl rfl rfl c26 <| .gNf rfl rfl rfl c26 <| .gNf rfl rfl rfl c26 <| .gU rfl rfl <| .gU rfl rfl <| .gU rfl rfl <| .gU rfl rfl <| .gNf rfl rfl rfl c26 <| .pkTb rfl c26 rfl <| .nil) rfl ?_
        refine .cTb rfl rfl ?_
        refine .reg (.ldE (qC (a2)) rfl rfl ly_exact_Q rfl rfl <| .stE (qC (a2)) rfl rfl rfl ly_exact_Q rfl rfl rfl <| .nil) rfl ?_
        cases h
        have h := ho1
        clear ho1
        cases h
        refine .retG (fun _ _ hb => hb) rfl (.cons (.agg rfl rfl ly_exact_Q rfl) .nil) (.refl _) trivial trivial
      · replace h := ite_neg_some c26 h
        by_cases c27 : (v23 == 0) = true
        · replace h := ite_pos_some c27 h
          obtain ⟨v28, e29, h⟩ := bind_some h
          refine .reg (.mv rfl <| .cm rfl rfl rfl <| .mv rfl <| .gYf rfl rfl rfl c26 <| .mv rfl <| .gYf rfl rfl rfl c26 <| .cm rfl rfl rfl <| .gYf rfl rfl rfl c26 <| .mv rfl <| .gYt rfl rfl rfl c27 <| .ldE (qC (a2)) rfl rfl ly_exact_Q rfl rfl <| .gYt rfl rfl rfl c27 <| .ldE (qC (a3)) rfl rfl ly_exact_Q rfl rfl <| .gYt rfl rfl rfl c27 <| .callG (Q_cmp e29) ⟨rfl, rfl, trivial⟩ trivial trivial <| .gYt rfl rfl rfl c27 <| .cm rfl rfl rfl <| .gYf rfl rfl rfl c26 <| .pkTb rfl c27 rfl <| .pkFb rfl c26 rfl <| .nil) rfl ?_
          by_cases c30 : (decide (v28 < 0)) = true
          · replace h := ite_pos_some c30 h
            refine .cTb rfl c30 ?_
            refine .reg (.ldE (qC (a2)) rfl rfl ly_exact_Q rfl rfl <| .stE (qC (a2)) rfl rfl rfl ly_exact_Q rfl rfl rfl <| .nil) rfl ?_
            cases h
            have h := ho1
            clear ho1
            cases h
            refine .retG (fun _ _ hb => hb) rfl (.cons (.agg rfl rfl ly_exact_Q rfl) .nil) (.refl _) trivial trivial
          · replace h := ite_neg_some c30 h
            refine .cFb rfl c30 ?_
            refine .skip (fun _ _ hs => ⟨(), (Option.some.inj h).symm, hs.sub ⟨⟨_, rfl, .refl _⟩, ⟨_, rfl, .refl _⟩, trivial⟩ ⟨⟨_, rfl, .refl _⟩, ⟨_, rfl, .refl _⟩, trivial⟩ rfl rfl⟩)
        · replace h := ite_neg_some c27 h
          refine .reg (.mv rfl <| .cm rfl rfl rfl <| .mv rfl <| .gYf rfl rfl rfl c26 <| .mv rfl <| .gYf rfl rfl rfl c26 <| .cm rfl rfl rfl <| .gYf rfl rfl rfl c26 <| .mv rfl <| .gNt rfl rfl rfl c27 <| .gNt rfl rfl rfl c27 <| .gNt rfl rfl rfl c27 <| .gNt rfl rfl rfl c27 <| .gYf rfl rfl rfl c26 <| .pkFb rfl c27 rfl <| .pkFb rfl c26 rfl <| .nil) rfl ?_
          refine .cFb rfl (by decide) ?_
          refine .skip (fun _ _ hs => ⟨(), (Option.some.inj h).symm, hs.sub ⟨⟨_, rfl, .refl _⟩, ⟨_, rfl, .refl _⟩, trivial⟩ ⟨⟨_, rfl, .refl _⟩, ⟨_, rfl, .refl _⟩, trivial⟩ rfl rfl⟩)
    · rintro ⟨⟩ rfl
      show Ok PP _ [(5, D.ref 5 0), (6, D.ref 6 0)] [(5, Hp.box 28 (qC (a3))), (6, Hp.box 28 (qC (0)))] _ _
      refine .reg (.ldE (qC (a3)) rfl rfl ly_exact_Q rfl rfl <| .stE (qC (a3)) rfl rfl rfl ly_exact_Q rfl rfl rfl <| .nil) rfl ?_
      cases h
      refine .retG (fun _ _ hb => hb) rfl (.cons (.agg rfl rfl ly_exact_Q rfl) .nil) (.refl _) trivial trivial
end
end Go.Am
namespace Go.Am
abbrev FR (l : Nat) : Fence := Fence.wide.inRound l
theorem fencedR (P : Program) (l : Nat) (m : Machine) : m.fenced P (FR l) := by
  have := fenced_wide P m
  exact this
theorem stepsInR {P : Program} {l : Nat} {m m' : Machine} : StepsIn (Machine.fenced P (FR l)) P m m' ↔ Steps P m m' :=
  ⟨StepsIn.steps, fun h => (StepsIn.of_steps h).mono fun m _ => fencedR P l m⟩
theorem comesInR {P : Program} {l : Nat} {m m' : Machine} {e : Ending} : ComesIn (Machine.fenced P (FR l)) P m m' e ↔ Comes P m m' e := by
  cases e with
  | returned v => exact stepsInR
  | panicked chain => exact stepsInR
  | outgrown => exact Iff.rfl
theorem callsInR {l n : Nat} {P : Program} {f : FuncId} {args : Array Value} {w : World} {R : Ending → World → Prop} (h : Calls P f args w R) : CallsIn (FR l) n P f args w R :=
  ⟨trivial, fun cs _ => let ⟨e, w', fr, r, s, x⟩ := h cs; ⟨e, w', fr, r, comesInR.2 s, x⟩⟩
theorem rowsInR {l n : Nat} {P : Program} {row : String} {args : Array Value} {w : World} {R : Value → World → Prop} (h : Rows P row args w R) : RowsIn (FR l) n P row args w R :=
  fun c cs _ => let ⟨v, w', r, s⟩ := h c cs; ⟨v, w', r, stepsInR.2 s⟩
theorem upon_in {P : Program} {l n : Nat} {o : Oper} {a : Act} {next next' : Act → World → Prop} {Q : Exit → Act → World → Prop} (hn : ∀ a w, next a w → next' a w) : ∀ {r : Result Next}, o.upon P a next Q r → o.uponIn (FR l) n P a next' Q r
  | .ok (.value v) w', h => hn _ _ h
  | .ok .skip w', h => hn _ _ h
  | .ok (.defer d) w', h => hn _ _ h
  | .ok (.enter f args) w', h => ⟨fun hd => (by simp [FR, Fence.wide] at hd), callsInR (Calls.mono h fun e w'' hr => by
      cases e with
      | returned v => exact hn _ _ hr
      | panicked chain => exact hr
      | outgrown => exact hr)⟩
  | .ok (.row row args) w', h => ⟨fun hd => (by simp [FR, Fence.wide] at hd), rowsInR (Rows.mono h fun v w'' hr => hn _ _ hr)⟩
  | .halt (.panic v) w', h => h
  | .ok (.round ..) _, h => h.elim
theorem ops_in {P : Program} {l n : Nat} {ops : Array Oper} {Q : Exit → Act → World → Prop} (hQ : ¬ LetsOut Q) (hd : ∀ (i : Nat) (o : Oper), ops[i]? = some o → ∀ c, o.op ≠ .defer c) : ∀ (is : List Nat) (a : Act) (w : World), wpOps P ops Q is a w → wpOpsIn (FR l) n P ops Q is a w
  | [], a, w, h => h
  | i :: rest, a, w, h => by
    unfold wpOps at h
    unfold wpOpsIn
    cases ho : ops[i]? with
    | none => rw [ho] at h; exact ops_in hQ hd rest a w h
    | some o =>
      rw [ho] at h
      simp only at h ⊢
      split
      · rename_i hw
        rw [if_pos hw] at h
        rcases h with h | h
        · refine ⟨fun _ _ => trivial, ?_⟩
          rw [Oper.semAt_eq _ _ _ (hd i o ho)]
          exact upon_in (fun a w hk => ops_in hQ hd rest a w hk) h
        · exact absurd h.2 hQ
      · rename_i hw
        rw [if_neg hw] at h
        exact ⟨fun _ _ => trivial, ops_in hQ hd rest _ w h⟩
def noDefer (l : List Oper) : Bool := l.all fun o => match o.op with | .defer _ => false | _ => true
theorem noDefer_get {l : List Oper} (h : noDefer l = true) (i : Nat) (o : Oper) (ho : l.toArray[i]? = some o) : ∀ c, o.op ≠ .defer c := by
  intro c hc
  have hm : o ∈ l := by rw [List.getElem?_toArray] at ho; exact List.mem_of_getElem? ho
  have := List.all_eq_true.1 h o hm
  rw [hc] at this
  cases this
def OkR (P : Program) (c : Ctx) (T : List (Nat × D)) (H : List (Nat × Hp)) (x : Code) (Q : Exit → Act → World → Prop) : Prop :=
  ∀ l n a w, Sat c (tget T) (hget H) a w → x.wpIn (FR l) n P Q a w
section
variable {P : Program} {c : Ctx} {T T' : List (Nat × D)} {H H' : List (Nat × Hp)} {Q : Exit → Act → World → Prop} {x y : Code} {id : Nat} {sps : List Spec}
theorem OkR.region {l : List Oper} (hL : ¬ LetsOut Q) (hn : noDefer l = true) (h : Runs P l.toArray c l T H sps T' H') (hd : dstsOk c.n l = true) (hQ : ∀ a w, Sat c (tget T') (hget H') a w → Q .normal a w) : OkR P c T H (.region id l.toArray false) Q := by
  intro k n a w hs
  refine wpIn_region (ops_in hL (noDefer_get hn) _ a w ?_)
  have h1 := h.wp hd hQ a w hs
  have h2 := wpOps_eq_wpList (P := P) (ops := l.toArray) (Q := Q) l 0 (by simp)
  rw [List.range_eq_range', show l.toArray.size = l.length from by simp, h2]
  exact h1
theorem OkR.regionD {l : List Oper} (hL : ¬ LetsOut Q) (hn : noDefer l = true) (hm : P.follows .mixedOrders = true) (h : Runs P l.toArray c l T H sps T' H') (hd : dstsOk c.n l = true) (hord : ordOk [] [] 0 (l.zip sps) = true) (hQ : ∀ a w, Sat c (tget T') (hget H') a w → Q .normal a w) : OkR P c T H (.region id l.toArray true) Q := by
  intro k n a w hs
  refine wpIn_region_draw fun t => ops_in hL (noDefer_get hn) _ a _ ?_
  simp only [Region.schedule, hm, Bool.true_or, if_true]
  exact wpAny_sound l.toArray.size t _ a _ (h.anyOrder hd hord hQ a w hs)
theorem letsOut_then {K : Act → World → Prop} (h : ¬ LetsOut Q) : ¬ LetsOut (Exit.then K Q) := h
theorem OkR.seq {K : Act → World → Prop} (h : OkR P c T H x (Exit.then K Q)) (hy : ∀ l n a w, K a w → y.wpIn (FR l) n P Q a w) : OkR P c T H (.seq x y) Q :=
  fun l n a w hs => wpIn_seq (wpIn_mono (h l n a w hs) (fun e a' w' q => by cases e <;> first | exact q | exact hy _ _ _ _ q))
theorem OkR.regD {l : List Oper} (hL : ¬ LetsOut Q) (hn : noDefer l = true) (hm : P.follows .mixedOrders = true) (h : Runs P l.toArray c l T H sps T' H') (hd : dstsOk c.n l = true) (hord : ordOk [] [] 0 (l.zip sps) = true) (hy : OkR P c T' H' y Q) : OkR P c T H (.seq (.region id l.toArray true) y) Q :=
  .seq (K := fun a w => Sat c (tget T') (hget H') a w) (OkR.regionD (letsOut_then hL) hn hm h hd hord (fun _ _ hs => hs)) (fun l n a w hs => hy l n a w hs)
theorem OkR.block (h : OkR P c T H x (Exit.inBlock id Q)) : OkR P c T H (.block id x) Q := fun l n a w hs => wpIn_block (h l n a w hs)
theorem OkR.exit (h : ∀ a w, Sat c (tget T) (hget H) a w → Q (.exit id) a w) : OkR P c T H (.exit id) Q := fun _ _ a w hs => wpIn_exit (h a w hs)
theorem OkR.skip (h : ∀ a w, Sat c (tget T) (hget H) a w → Q .normal a w) : OkR P c T H .skip Q := fun _ _ a w hs => wpIn_skip (h a w hs)
theorem OkR.cT {o : Operand} (h : ev T o = some (.bool true)) (k : OkR P c T H x Q) : OkR P c T H (.cond o x y) Q := by
  intro l n a w hs
  obtain ⟨ε, φ, hs'⟩ := hs
  exact wpIn_cond_true (hs'.ev (ev_split h).1 (ev_split h).2).1 (k l n a w ⟨ε, φ, hs'⟩)
theorem OkR.cF {o : Operand} (h : ev T o = some (.bool false)) (k : OkR P c T H y Q) : OkR P c T H (.cond o x y) Q := by
  intro l n a w hs
  obtain ⟨ε, φ, hs'⟩ := hs
  exact wpIn_cond_false (hs'.ev (ev_split h).1 (ev_split h).2).1 (k l n a w ⟨ε, φ, hs'⟩)
theorem OkR.sq (h : OkR P c T H x (Exit.then (fun a w => ∀ l n, y.wpIn (FR l) n P Q a w) Q)) : OkR P c T H (.seq x y) Q := .seq h (fun l n _ _ k => k l n)
end
end Go.Am
namespace Go.Am
open Go.RowKit
def Hp.obj (o : Obj) : Hp where
  p := fun _ w _ b F => F = only (blk b) ∧ w.heap[blk b]? = some o
  nm := []
  mono := fun ⟨e, h⟩ _ _ hF => ⟨e, (hF _ (by rw [e]; rfl)).trans h⟩
def Hp.caller (T : List (Nat × D)) (tm : Array Value) (H : List (Nat × Hp)) : Hp where
  p := fun _ w S _ F => ∃ (ε : Env) (φ : Nat → Reg), (∀ t d, tget T t = some d → d.p ε w S (tm.getD t undef)) ∧ (∀ r h, hget H r = some h → h.p ε w S (ε r) (φ r)) ∧
    (∀ r r', hget H r ≠ none → hget H r' ≠ none → r ≠ r' → ∀ k, φ r k → ¬ φ r' k) ∧ (∀ r, hget H r ≠ none → ∀ k, φ r k → F k) ∧ (∀ k, F k → k < w.heap.size ∧ ∃ r, hget H r ≠ none ∧ φ r k)
  nm := []
  mono := by
    rintro ε ε' w w' S S' b F ⟨ε1, φ1, h1, h2, h3, h4, h5⟩ _ hS hF
    refine ⟨ε1, φ1, fun t d ht => d.mono (h1 t d ht) (fun _ _ => rfl) hS, fun r h hr => h.mono (h2 r h hr) (fun _ _ => rfl) hS (fun k hk => hF k (h4 r (by rw [hr]; simp) k hk)), h3, h4, fun k hk => ⟨?_, (h5 k hk).2⟩⟩
    have h6 := (h5 k hk).1
    have h7 := hF k hk
    rw [Array.getElem?_eq_getElem h6] at h7
    exact (Array.getElem?_eq_some_iff.1 h7).1
def ptrTo (l : Nat) : Value := .pointer (some ⟨l, 0, none⟩)
section
variable {P : Program}
theorem pins_has {b : Env} {r : Nat} : ∀ {l : List Nat}, r ∈ l → tget (pins b l) (1000000 + r) = some (.pinned r (b r))
  | [], h => by cases h
  | r0 :: l, h => by
    simp only [pins, tget]
    cases hb : Nat.beq (1000000 + r) (1000000 + r0) with
    | true =>
      have : r = r0 := by have := Nat.eq_of_beq_eq_true hb; omega
      subst this; rfl
    | false =>
      rcases List.mem_cons.1 h with rfl | h
      · simp at hb
      · exact pins_has h
theorem caller_sat {T : List (Nat × D)} {tm : Array Value} {H : List (Nat × Hp)} {A F : Reg} {w : World} {b v : Value} {d : D} {p : Nat} {ε0' : Env} (h : (Hp.caller T tm H).p ε0' w A b F) (hA : ∀ k, F k → ¬ A k)
    (hT : allIn H (nmsT T) = true) (hH : allIn H (nmsH H) = true) (hd : d.nm = []) (hv : d.p ε0' w A v) (hp : p < tm.size) :
    ∃ β : Env, Sat ⟨A, w.heap.size, w, tm.size, F⟩ (tget ((p, d) :: (T ++ pins β (names H)))) (hget H) { tmps := tm.setIfInBounds p v, defers := [] } w ∧
      (∀ t d, tget T t = some d → d.p β w A (tm.getD t undef)) := by
  obtain ⟨ε, φ, h1, h2, h3, h4, h5⟩ := h
  have hreg : ∀ k, A k → k < w.heap.size → reg ⟨A, w.heap.size, w, tm.size, F⟩ (hget H) φ k ∧ w.heap[k]? = w.heap[k]? := fun k hk _ => ⟨⟨.inl hk, fun r hr hf => hA k (h4 r hr k hf) hk⟩, rfl⟩
  refine ⟨ε, ⟨ε, φ, ?_⟩, h1⟩
  have hs : SatE ⟨A, w.heap.size, w, tm.size, F⟩ (tget (T ++ pins ε (names H))) (hget H) { tmps := tm, defers := [] } w ε φ := by
    constructor
    · intro t d' ht
      rcases tget_append ht with ht | ht
      · exact d'.mono (h1 t d' ht) (fun _ _ => rfl) hreg
      · obtain ⟨r, _, _, rfl⟩ := pins_get ht
        rfl
    · intro t d' ht r hr
      rcases tget_append ht with ht | ht
      · exact allIn_get hT r (nmsT_get ht r hr)
      · obtain ⟨r', hr', _, rfl⟩ := pins_get ht
        have : r = r' := by simpa [D.pinned] using hr
        subst this
        exact hget_none.2 hr'
    · exact fun r y hy => y.mono (h2 r y hy) (fun _ _ => rfl) hreg (fun _ _ => rfl)
    · exact nmsH_in hH
    · exact fun r hr k hk => ⟨.inr (h4 r hr k hk), (h5 k (h4 r hr k hk)).1⟩
    · exact h3
    · exact .of (Below.refl _ _)
    · rfl
    · rfl
    · rfl
  have := hs.put (dst := some p) (d := d) (v := v) (fun t ht => by injection ht with ht; subst ht; exact hp) (d.mono hv (fun r hr => by rw [hd] at hr; cases hr) hreg) (fun r hr => by rw [hd] at hr; cases hr)
  rw [tget_tput] at this
  exact this
theorem caller_back {T T' : List (Nat × D)} {tm : Array Value} {H H' : List (Nat × Hp)} {A F : Reg} {w w' : World} {β : Env} {a : Act} {n : Nat} (hT : allIn H (nmsT T) = true) (h0 : ∀ t d, tget T t = some d → d.p β w A (tm.getD t undef)) (hA : ∀ k, F k → ¬ A k)
    (hpin : subT T' (pins β (names H))) (hs : Sat ⟨A, w.heap.size, w, n, F⟩ (tget T') (hget H') a w') :
    ∃ F', (Hp.caller T tm H').p ε0 w' (fun k => (A k ∨ w.heap.size ≤ k ∨ F k) ∧ ¬ F' k) undef F' ∧ (∀ k, F' k → (w.heap.size ≤ k ∨ F k) ∧ k < w'.heap.size) ∧ BelL w.heap.size F w w' := by
  obtain ⟨ε, φ, hs⟩ := hs
  have hpins : ∀ r ∈ names H, ε r = β r := by
    intro r hr
    obtain ⟨d, hd, hle⟩ := subT_get hpin _ _ (pins_has hr)
    exact hle.1 _ _ _ _ (hs.t _ _ hd)
  have hlo : ∀ k, (∃ r, hget H' r ≠ none ∧ φ r k) → (w.heap.size ≤ k ∨ F k) ∧ k < w'.heap.size := fun k ⟨r, hr, hf⟩ => hs.lo r hr k hf
  have hreg : ∀ k, reg ⟨A, w.heap.size, w, n, F⟩ (hget H') φ k → k < w'.heap.size → ((A k ∨ w.heap.size ≤ k ∨ F k) ∧ ¬ (∃ r, hget H' r ≠ none ∧ φ r k)) ∧ w'.heap[k]? = w'.heap[k]? := fun k hk _ => ⟨⟨hk.1, fun ⟨r, hr, hf⟩ => hk.2 r hr hf⟩, rfl⟩
  refine ⟨fun k => ∃ r, hget H' r ≠ none ∧ φ r k, ⟨ε, φ, ?_, ?_, hs.dj, fun r hr k hk => ⟨r, hr, hk⟩, fun k hk => ⟨(hlo k hk).2, hk⟩⟩, hlo, hs.bel⟩
  · intro t d ht
    refine d.mono (h0 t d ht) (fun r hr => hpins r ?_) (fun k hk hlt => ⟨⟨.inl hk, fun hf => ?_⟩, hs.bel.block k hlt (fun hF => hA k hF hk)⟩)
    · exact hget_none.1 (allIn_get hT r (nmsT_get ht r hr))
    · rcases (hlo k hf).1 with h | h
      · omega
      · exact hA k h hk
  · intro r h hr
    exact h.mono (hs.h r h hr) (fun _ _ => rfl) hreg (fun _ _ => rfl)
def goesOn {σ ρ : Type} : St σ ρ → Bool
  | .next _ => true
  | .done _ => false
def YR {σ ρ : Type} (T : List (Nat × D)) (tm : Array Value) (C : St σ ρ → List (Nat × Hp)) (st : St σ ρ) (A F : Reg) (w : World) : Ending → World → Prop :=
  fun e w' => ∃ F' : Reg, e = .returned (.bool (goesOn st)) ∧ (Hp.caller T tm (C st)).p ε0 w' (fun k => (A k ∨ w.heap.size ≤ k ∨ F k) ∧ ¬ F' k) undef F' ∧ (∀ k, F' k → (w.heap.size ≤ k ∨ F k) ∧ k < w'.heap.size) ∧ BelL w.heap.size F w w'
def YieldC (P : Program) (l : Nat) {σ ρ α : Type} (T : List (Nat × D)) (tm : Array Value) (C : St σ ρ → List (Nat × Hp)) (dx : α → D) (step : σ → α → Option (St σ ρ)) : Prop :=
  ∀ s x st, step s x = some st → ∀ (A F : Reg) (w : World) (v : Value), (∀ k, F k → ¬ A k) → (Hp.caller T tm (C (.next s))).p ε0 w A undef F → (dx x).p ε0 w A v →
    ∃ f tmps assign body, (Instr.yield l #[v]).run P w = .ok (.round l f tmps assign body) w ∧ ∀ n, RoundIn Fence.wide n P l f tmps assign body w (YR T tm C st A F w)
def recOf (fn : FuncId) (tm : Array Value) (p : Nat) (assign body : Code) (dd : Nat) (st : LoopState) (pe : Option Code) : Go.Loop := { state := st, pending := pe, fn, tmps := tm, params := #[p], assign, body, defers := dd }
def pend {σ ρ : Type} (j : Nat) : St σ ρ → Option Code
  | .next _ => none
  | .done _ => some (.exit j)
def stat {σ ρ : Type} : St σ ρ → LoopState
  | .next _ => .ready
  | .done _ => .done
def withRec {σ ρ : Type} (rd dd : Nat) (o : Obj) (C : St σ ρ → List (Nat × Hp)) (st : St σ ρ) : List (Nat × Hp) := (rd, .obj o) :: (dd, .obj (.deferred (some []))) :: C st
def roundQ {σ ρ : Type} (c : Ctx) (j rd dd : Nat) (o : Obj) (C : St σ ρ → List (Nat × Hp)) (β : Env) (nms : List Nat) (st : St σ ρ) : Exit → Act → World → Prop
  | .normal, a, w => (∃ s, st = .next s) ∧ ∃ T', subT T' (pins β nms) ∧ Sat c (tget T') (hget (withRec rd dd o C st)) a w
  | .exit id, a, w => id = j ∧ (∃ r, st = .done r) ∧ ∃ T', subT T' (pins β nms) ∧ Sat c (tget T') (hget (withRec rd dd o C st)) a w
  | _, _, _ => False
theorem obj_set {c : Ctx} {T : List (Nat × D)} {H : List (Nat × Hp)} {a : Act} {w : World} {rd l : Nat} {o : Obj} (o' : Obj) (hs : Sat c (tget T) (hget ((rd, .obj o) :: H)) a w) (hp : ∀ ε φ, SatE c (tget T) (hget ((rd, .obj o) :: H)) a w ε φ → ε rd = ptrTo l) :
    w.heap[l]? = some o ∧ Sat c (tget T) (hget ((rd, .obj o') :: H)) a (w.putObj l o') := by
  obtain ⟨ε, φ, hs⟩ := hs
  have h1 : hget ((rd, Hp.obj o) :: H) rd = some (.obj o) := by simp [hget]
  have hp := hp ε φ hs
  obtain ⟨e1, e2⟩ := hs.h rd _ h1
  have hb : blk (ε rd) = l := by rw [hp]; rfl
  rw [hb] at e1 e2
  have hlt : l < w.heap.size := (Array.getElem?_eq_some_iff.1 e2).1
  refine ⟨e2, ε, φ, ?_⟩
  have h2 := hs.setHp (w' := w.putObj l o') (y := .obj o') h1 (by simp) rfl rfl rfl (fun k hk => World.putObj_heap_other (fun e => hk (by rw [e1, e]; rfl))) ⟨by rw [hb]; exact e1, by rw [hb]; exact World.putObj_heap_same hlt⟩ (fun r hr => by cases hr)
  have h3 : updH (hget ((rd, Hp.obj o) :: H)) [(rd, .obj o')] = hget ((rd, .obj o') :: H) := by
    funext r
    simp only [updH, hget]
    cases Nat.beq r rd <;> rfl
  rw [h3] at h2
  exact h2
theorem pins_eq {c : Ctx} {T : List (Nat × D)} {H : Nat → Option Hp} {a : Act} {w : World} {β : Env} {nms : List Nat} {r : Nat} (hsub : subT T (pins β nms)) (hr : r ∈ nms) {v : Value} (hv : β r = v) : ∀ ε φ, SatE c (tget T) H a w ε φ → ε r = v := by
  intro ε φ hs
  obtain ⟨d, hd, hle⟩ := subT_get hsub _ _ (pins_has hr)
  exact (show ε r = β r from hle.1 _ _ _ _ (hs.t _ _ hd)).trans hv
theorem yield_of {σ ρ α : Type} {l rd dd j p : Nat} {fn : FuncId} {tm : Array Value} {assign body : Code} {D0 : Nat} {T : List (Nat × D)} {C : St σ ρ → List (Nat × Hp)} {dx : α → D} {step : σ → α → Option (St σ ρ)} {nmsC : List Nat}
    (hn : ∀ st, names (C st) = nmsC) (hrd : Nat.beq rd dd = false) (hTn : ∀ (o : Obj) st, allIn (withRec rd dd o C st) (nmsT T) = true) (hHn : ∀ (o : Obj) st, allIn (withRec rd dd o C st) (nmsH (C st)) = true) (hdx : ∀ x, (dx x).nm = []) (hp : p < tm.size)
    (pt : Nat) (hpt : tget T pt = some (.pinned rd (ptrTo l)))
    (Hx : α → List (Nat × Hp)) (T1 : (β : Env) → α → List (Nat × D)) (hT1 : ∀ β x, subT (T1 β x) (pins β (rd :: dd :: nmsC)))
    (ha : ∀ s x st, step s x = some st → ∀ A w0 L β, OkR P ⟨A, w0.heap.size, w0, tm.size, L⟩ ((p, dx x) :: (T ++ pins β (rd :: dd :: nmsC))) (withRec rd dd (.loop (recOf fn tm p assign body D0 .ready none)) C (.next s)) assign
      (Exit.then (fun a w => Sat ⟨A, w0.heap.size, w0, tm.size, L⟩ (tget (T1 β x)) (hget (withRec rd dd (.loop (recOf fn tm p assign body D0 .ready none)) C (.next s) ++ Hx x)) a w) (fun _ _ _ => False)))
    (hb : ∀ s x st, step s x = some st → ∀ A w0 L β, OkR P ⟨A, w0.heap.size, w0, tm.size, L⟩ (T1 β x) (withRec rd dd (.loop (recOf fn tm p assign body D0 .busy none)) C (.next s) ++ Hx x) body (roundQ ⟨A, w0.heap.size, w0, tm.size, L⟩ j rd dd (.loop (recOf fn tm p assign body D0 .busy none)) C β (rd :: dd :: nmsC) st)) :
    YieldC P l T tm (fun st => withRec rd dd (.loop (recOf fn tm p assign body D0 (stat st) (pend j st))) C st) dx step := by
  intro s x st hst A F w v hA hcal hv
  have hnames : ∀ (o : Obj) st, names (withRec rd dd o C st) = rd :: dd :: nmsC := fun o st => by simp only [withRec, names, hn]
  have hHall : ∀ (o : Obj) st, allIn (withRec rd dd o C st) (nmsH (withRec rd dd o C st)) = true := fun o st => by
    show allIn (withRec rd dd o C st) (nmsH (C st)) = true
    exact hHn o st
  obtain ⟨β, hsat, h0⟩ := caller_sat (d := dx x) (v := v) (p := p) hcal hA (hTn _ _) (hHall _ _) (hdx x) hv hp
  rw [hnames] at hsat
  -- the record
  have hl : w.heap[l]? = some (.loop (recOf fn tm p assign body D0 .ready none)) := by
    obtain ⟨ε, φ, h1, h2, _⟩ := hcal
    have e1 : ε rd = ptrTo l := h1 pt _ hpt
    have e2 := (h2 rd (.obj (.loop (recOf fn tm p assign body D0 .ready none))) (by simp [withRec, hget, stat, pend])).2
    rw [e1] at e2
    exact e2
  refine ⟨fn, _, assign, body, ?_, fun n => roundIn_of_wpIn (tmps := tm.setIfInBounds p v) trivial (wpIn_mono (ha s x st hst A w F β l n _ _ hsat) ?_)⟩
  · have := run_yield (P := P) (args := #[v]) hl rfl
    rw [this]
    simp [recOf]
  intro e a1 w1 hq
  cases e with
  | normal =>
    have hβ : β rd = ptrTo l := h0 pt _ hpt
    have hq' : Sat ⟨A, w.heap.size, w, tm.size, F⟩ (tget (T1 β x)) (hget (withRec rd dd (.loop (recOf fn tm p assign body D0 .ready none)) C (.next s) ++ Hx x)) a1 w1 := hq
    obtain ⟨hl1, hS1⟩ := obj_set (.loop (recOf fn tm p assign body D0 .busy none)) hq' (pins_eq (hT1 β x) (by simp) hβ)
    refine ⟨_, run_beginRound hl1 rfl, wpIn_mono (hb s x st hst A w F β l n _ _ hS1) ?_⟩
    have fin : ∀ (a2 : Act) (w2 : World), (∃ T', subT T' (pins β (rd :: dd :: nmsC)) ∧ Sat ⟨A, w.heap.size, w, tm.size, F⟩ (tget T') (hget (withRec rd dd (.loop (recOf fn tm p assign body D0 .busy none)) C st)) a2 w2) →
        w2.heap[l]? = some (.loop (recOf fn tm p assign body D0 .busy none)) ∧ ∃ F' : Reg, (Hp.caller T tm (withRec rd dd (.loop (recOf fn tm p assign body D0 (stat st) (pend j st))) C st)).p ε0 (w2.putObj l (.loop (recOf fn tm p assign body D0 (stat st) (pend j st)))) (fun k => (A k ∨ w.heap.size ≤ k ∨ F k) ∧ ¬ F' k) undef F' ∧
        (∀ k, F' k → (w.heap.size ≤ k ∨ F k) ∧ k < (w2.putObj l (.loop (recOf fn tm p assign body D0 (stat st) (pend j st)))).heap.size) ∧ BelL w.heap.size F w (w2.putObj l (.loop (recOf fn tm p assign body D0 (stat st) (pend j st)))) := by
      rintro a2 w2 ⟨T', hsub, hS⟩
      obtain ⟨hl2, hS2⟩ := obj_set (.loop (recOf fn tm p assign body D0 (stat st) (pend j st))) hS (pins_eq hsub (by simp) hβ)
      refine ⟨hl2, ?_⟩
      exact caller_back (H := withRec rd dd (.loop (recOf fn tm p assign body D0 .ready none)) C (.next s)) (hTn _ _) h0 hA (by rw [hnames]; exact hsub) hS2
    intro e2 a2 w2 hq2
    cases e2 with
    | normal =>
      obtain ⟨⟨s', rfl⟩, hq2⟩ := hq2
      obtain ⟨hl2, F', hf⟩ := fin a2 w2 hq2
      exact ⟨_, _, run_endRound (P := P) none hl2, F', rfl, hf⟩
    | exit id =>
      obtain ⟨rfl, ⟨r, rfl⟩, hq2⟩ := hq2
      obtain ⟨hl2, F', hf⟩ := fin a2 w2 hq2
      exact ⟨_, _, run_endRound (P := P) (some (.exit id)) hl2, F', rfl, hf⟩
    | _ => exact hq2.elim
  | _ => exact hq.elim
theorem hget_one {nc : Nat} {h : Hp} {r : Nat} {h' : Hp} (e : hget [(nc, h)] r = some h') : r = nc ∧ h' = h := by
  simp only [hget] at e
  cases hb : Nat.beq r nc with
  | true => rw [hb] at e; injection e with e; exact ⟨Nat.eq_of_beq_eq_true hb, e.symm⟩
  | false => rw [hb] at e; cases e
theorem hget_one' {nc : Nat} {h : Hp} {r : Nat} (e : hget [(nc, h)] r ≠ none) : r = nc := by
  cases hq : hget [(nc, h)] r with
  | none => exact absurd hq e
  | some h' => exact (hget_one hq).1
theorem run_callY {dst : Option Nat} {ty : TypeId} {pos : String} {aft : Array Edge} {l : Nat} {x y : Operand} {ats : Array TypeId} (a : Act) (w : World) {v : Value} (hx : a.eval x = .func (.yield l) #[] #[]) (hy : a.eval y = v) :
    (execOp a.eval ⟨dst, .call { callee := .value x, args := #[y], argTypes := ats }, ty, pos, aft, none⟩).run P w = (Instr.yield l #[v]).run P w := by
  simp only [execOp, resolve, hx, Deferred.ofValue, Sem.run_bind, Sem.run_pure, Result.andThen_ok, invoke]
  simp [hy]
theorem yield_op {σ ρ α : Type} {l : Nat} {T : List (Nat × D)} {tm : Array Value} {C : St σ ρ → List (Nat × Hp)} {dx : α → D} {step : σ → α → Option (St σ ρ)} (hY : YieldC P l T tm C dx step) {s : σ} {x0 : α} {st : St σ ρ} (hst : step s x0 = some st)
    {c : Ctx} {T2 : List (Nat × D)} {H2 : List (Nat × Hp)} {x y : Operand} {nc n : Nat} (hx : ev T2 x = some (.lit (.func (.yield l) #[] #[]))) (hy : ev T2 y = some (dx x0)) (hdx : (dx x0).nm = []) (hH : hget H2 nc = some (.caller T tm (C (.next s))))
    {dst : Option Nat} {ty : TypeId} {pos : String} {aft : Array Edge} {ats : Array TypeId} (hdst : ∀ t, dst = some t → t < c.n) {K : Act → World → Prop} {Q : Exit → Act → World → Prop}
    (hK : ∀ a' w', Sat c (tget (tput T2 dst (.bool (goesOn st)))) (hget ((nc, .caller T tm (C st)) :: H2)) a' w' → K a' w') {a : Act} {w : World} (hs : Sat c (tget T2) (hget H2) a w) :
    Oper.wpIn Fence.wide n P ⟨dst, .call { callee := .value x, args := #[y], argTypes := ats }, ty, pos, aft, none⟩ a w K Q := by
  obtain ⟨ε, φ, hs⟩ := hs
  have ex := (hs.ev (ev_split hx).1 (ev_split hx).2).1
  have ey := (hs.ev (ev_split hy).1 (ev_split hy).2).1
  have hcal := hs.h nc _ hH
  have hHn : hget H2 nc ≠ none := by rw [hH]; simp
  obtain ⟨f, tmps, assign, body, hrun, hround⟩ := hY s x0 st hst (reg c (hget H2) φ) (φ nc) w (a.eval y) (fun k hk hr => hr.2 nc hHn hk) hcal ((dx x0).mono ey (fun r hr => by rw [hdx] at hr; cases hr) (fun k hk _ => ⟨hk, rfl⟩))
  refine ⟨fun _ _ => trivial, ?_⟩
  rw [Oper.semAt_eq _ _ _ (by intro c hc; cases hc), run_callY a w ex rfl, hrun]
  refine ⟨fun hd => by simp [Fence.wide] at hd, (hround (n - 1)).mono ?_⟩
  rintro e w' ⟨F', rfl, hp, hlo, hbel⟩
  have hfn : upd φ nc F' nc = F' := upd_same _ _ _
  have hloan : ∀ k, loan [(nc, Hp.caller T tm (C (.next s)))] φ k ↔ φ nc k := fun k => ⟨fun ⟨r, hr, hf⟩ => by rw [← hget_one' hr]; exact hf, fun hf => ⟨nc, by simp [hget], hf⟩⟩
  obtain ⟨ε1, φ1, hS⟩ := hs.back (T0 := tget T2) (Hi := [(nc, .caller T tm (C (.next s)))]) (Ho := [(nc, .caller T tm (C st))]) (d := .bool (goesOn st)) (v := .bool (goesOn st)) (dst := dst) (ε' := ε) (φ' := upd φ nc F') (n := 0) (w' := w')
    (fun r h hr => by obtain ⟨rfl, rfl⟩ := hget_one hr; exact hH) (fun r ho hi => by rw [hget_one' ho] at hi; simp [hget] at hi) (fun r h hr r' hr' => by obtain ⟨rfl, rfl⟩ := hget_one hr; cases hr') (fun r hr => by cases hr) (fun r hr => by rw [hget_one' hr]; simp [hget]) (fun _ _ => rfl)
    ⟨rfl, fun r h hr => by
      obtain ⟨rfl, rfl⟩ := hget_one hr
      rw [hfn]
      refine (Hp.caller T tm (C st)).mono (ε := ε0) hp (fun r hr => by cases hr) (fun k hk _ => ⟨⟨?_, fun r' hr' => ?_⟩, rfl⟩) (fun _ _ => rfl)
      · rcases hk.1 with h | h | h
        · exact .inl h
        · exact .inr (.inl h)
        · exact .inr (.inr ((hloan k).2 h))
      · rw [hget_one' hr', hfn]; exact hk.2,
     fun r hr k hk => by
      rw [hget_one' hr, hfn] at hk
      exact ⟨(hlo k hk).1.elim .inl (fun h => .inr ((hloan k).2 h)), (hlo k hk).2⟩,
     fun r r' hr hr' hne => absurd ((hget_one' hr).trans (hget_one' hr').symm) hne,
     ⟨hbel.os, hbel.tape, hbel.output, hbel.size, fun k hk hl => hbel.block k hk (fun hf => hl ((hloan k).2 hf))⟩⟩ hdst
  rw [tget_tput, hget_append] at hS
  exact hK _ _ ⟨ε1, φ1, hS⟩
def mark (D : Nat) : Deferred := { target := .collected D, args := #[] }
def keptT (rd dd l b : Nat) (Tk : List (Nat × D)) : List (Nat × D) := (2000000, .pinned rd (ptrTo l)) :: (2000001, .pinned dd (ptrTo b)) :: Tk
def endExit {σ ρ : Type} (j : Nat) : St σ ρ → Exit
  | .next _ => .normal
  | .done _ => .exit j
theorem Ok.rangeF {σ ρ α : Type} {c : Ctx} {T : List (Nat × D)} {H : List (Nat × Hp)} {Q : Exit → Act → World → Prop} {g : Operand} {f : FuncId} {p : Nat} {assign body : Code} {rb tb j rd dd : Nat} {lb lb' : List D} {C : St σ ρ → List (Nat × Hp)} {dx : α → D} {step : σ → α → Option (St σ ρ)} {s0 : σ} {stE : St σ ρ} (Tk : List (Nat × D)) (nmsC : List Nat)
    (hg : ev T g = some (.clo f [] [.ref rb 0])) (hok : fnOk P f = true) (hrb : hget H rb = some (.box tb lb)) (hlb : nms lb = []) (hTk : ∀ t d, tget Tk t = some d → tget T t = some d) (hC : hinL (C (.next s0)) H) (hCb : hget (C (.next s0)) rb = none) (hrd : hget H rd = none) (hdd : hget H dd = none) (hne : Nat.beq rd dd = false)
    (hn : ∀ st, names (C st) = nmsC) (hTn : ∀ (l b : Nat) (o : Obj) st, allIn (withRec rd dd o C st) (nmsT (keptT rd dd l b Tk)) = true) (hHn : ∀ (o : Obj) st, allIn (withRec rd dd o C st) (nmsH (C st)) = true) (hdx : ∀ x, (dx x).nm = []) (hp : p < c.n)
    (hcall : ∀ (l b : Nat) (fn : FuncId) (tm : Array Value), YieldC P l (keptT rd dd l b Tk) tm (fun st => withRec rd dd (.loop (recOf fn tm p assign body b (stat st) (pend j st))) C st) dx step →
      CtrG P f [(0, .box tb lb), (1, .caller (keptT rd dd l b Tk) tm (withRec rd dd (.loop (recOf fn tm p assign body b (stat (.next s0 : St σ ρ)) (pend j (.next s0 : St σ ρ)))) C (.next s0)))] [.lit (.func (.yield l) #[] #[]), .ref 0 0]
        [(0, .box tb lb'), (1, .caller (keptT rd dd l b Tk) tm (withRec rd dd (.loop (recOf fn tm p assign body b (stat stE) (pend j stE))) C stE))] .any)
    (Hx : α → List (Nat × Hp)) (T1 : (β : Env) → (l b : Nat) → α → List (Nat × D)) (hT1 : ∀ β l b x, subT (T1 β l b x) (pins β (rd :: dd :: nmsC)))
    (ha : ∀ (l b : Nat) (o : Obj) s x st, step s x = some st → ∀ A w0 L β, OkR P ⟨A, w0.heap.size, w0, c.n, L⟩ ((p, dx x) :: (keptT rd dd l b Tk ++ pins β (rd :: dd :: nmsC))) (withRec rd dd o C (.next s)) assign
      (Exit.then (fun a w => Sat ⟨A, w0.heap.size, w0, c.n, L⟩ (tget (T1 β l b x)) (hget (withRec rd dd o C (.next s) ++ Hx x)) a w) (fun _ _ _ => False)))
    (hb : ∀ (l b : Nat) (o : Obj) s x st, step s x = some st → ∀ A w0 L β, OkR P ⟨A, w0.heap.size, w0, c.n, L⟩ (T1 β l b x) (withRec rd dd o C (.next s) ++ Hx x) body (roundQ ⟨A, w0.heap.size, w0, c.n, L⟩ j rd dd o C β (rd :: dd :: nmsC) st))
    (hQ : ∀ (l b : Nat) (o : Obj) (a : Act) (w : World), a.defers = [mark b] → Sat c (tget (keptT rd dd l b Tk)) (hget ((rd, .obj o) :: (dd, .obj (.deferred (some []))) :: C stE)) { a with defers := [] } w → Q (endExit j stE) a w) :
    Ok P c T H (.rangeFunc g #[p] assign body) Q := by
  rintro a w ⟨ε, φ, hs⟩
  refine (wpIn_wide (n := 0)).1 (wpIn_rangeFunc (fun fn _ => ?_))
  obtain ⟨vs, us, eg, hvs, hus⟩ := (hs.ev (ev_split hg).1 (ev_split hg).2).1
  obtain rfl : vs = [] := List.eq_nil_of_length_eq_zero (all2_length hvs)
  match us, hus with
  | [u], hus =>
  have eu : u = .pointer (some ⟨blk (ε rb), 0, none⟩) := hus.1
  have hrdd : rd ≠ dd := fun e => by subst e; simp at hne
  -- the two blocks
  have hs1 := hs.newHp (r := dd) (x := .obj (.deferred (some []))) (b := ptrTo w.heap.size) (F := only w.heap.size) (w' := w.alloc (.deferred (some []))) hdd ((Below.refl _ _).alloc (Nat.le_refl _) _) (fun k hk => by simp only [only] at hk; subst hk; simp) ⟨rfl, alloc_at _ _⟩ (fun r hr => by cases hr)
  have hs2 := hs1.newHp (r := rd) (x := .obj (.loop (recOf fn a.tmps p assign body w.heap.size .ready none))) (b := ptrTo (w.heap.size + 1)) (F := only (w.heap.size + 1)) (w' := (w.alloc (.deferred (some []))).alloc (.loop (recOf fn a.tmps p assign body w.heap.size .ready none)))
    (by rw [updH_one, upd_ne _ _ hrdd]; exact hrd) ((Below.refl _ _).alloc (Nat.le_refl _) _) (fun k hk => by simp only [only] at hk; subst hk; simp) ⟨rfl, by have := alloc_at (w.alloc (.deferred (some []))) (.loop (recOf fn a.tmps p assign body w.heap.size .ready none)); rw [World.size_alloc] at this; exact this⟩ (fun r hr => by cases hr)
  have eH : updH (updH (hget H) [(dd, .obj (.deferred (some [])))]) [(rd, .obj (.loop (recOf fn a.tmps p assign body w.heap.size .ready none)))] = hget ((rd, .obj (.loop (recOf fn a.tmps p assign body w.heap.size .ready none))) :: (dd, .obj (.deferred (some []))) :: H) := by
    rw [hget_append, hget_append]; rfl
  rw [eH] at hs2
  generalize hε1 : upd (upd ε dd (ptrTo w.heap.size)) rd (ptrTo (w.heap.size + 1)) = ε1 at hs2
  generalize hφ1 : upd (upd φ dd (only w.heap.size)) rd (only (w.heap.size + 1)) = φ1 at hs2
  generalize hW : (w.alloc (.deferred (some []))).alloc (.loop (recOf fn a.tmps p assign body w.heap.size .ready none)) = W at hs2
  have erd : ε1 rd = ptrTo (w.heap.size + 1) := by rw [← hε1, upd_same]
  have edd : ε1 dd = ptrTo w.heap.size := by rw [← hε1, upd_ne _ _ (Ne.symm hrdd), upd_same]
  have hrbd : rb ≠ dd := fun e => by subst e; rw [hrb] at hdd; cases hdd
  have hrbr : rb ≠ rd := fun e => by subst e; rw [hrb] at hrd; cases hrd
  have erb : ε1 rb = ε rb := by rw [← hε1, upd_ne _ _ hrbr, upd_ne _ _ hrbd]
  obtain ⟨HA, hHA⟩ : ∃ HA, HA = (rd, Hp.obj (.loop (recOf fn a.tmps p assign body w.heap.size .ready none))) :: (dd, Hp.obj (.deferred (some []))) :: H := ⟨_, rfl⟩
  rw [← hHA] at hs2
  obtain ⟨H1, hH1⟩ : ∃ H1, H1 = withRec rd dd (.loop (recOf fn a.tmps p assign body w.heap.size .ready none)) C (.next s0) := ⟨_, rfl⟩
  have hbeq : ∀ {x y : Nat}, x ≠ y → Nat.beq x y = false := fun {x y} h => by
    cases hq : Nat.beq x y with
    | false => rfl
    | true => exact absurd (Nat.eq_of_beq_eq_true hq) h
  -- the caller's blocks are the state's own
  have hin1 : ∀ r h, hget H1 r = some h → hget HA r = some h := by
    intro r h hr
    rw [hH1] at hr
    rw [hHA]
    simp only [withRec, hget] at hr ⊢
    cases hq : Nat.beq r rd with
    | true => rw [hq] at hr; exact hr
    | false =>
      rw [hq] at hr
      cases hq2 : Nat.beq r dd with
      | true => rw [hq2] at hr; exact hr
      | false => rw [hq2] at hr; exact hC r h hr
  have hin1n : ∀ r, hget H1 r ≠ none → hget HA r ≠ none := fun r hr => by
    cases hq : hget H1 r with
    | none => exact absurd hq hr
    | some h => rw [hin1 r h hq]; simp
  have hrb1 : hget HA rb = some (.box tb lb) := by rw [hHA]; simp only [hget, hbeq hrbr, hbeq hrbd]; exact hrb
  have hrb1n : hget HA rb ≠ none := by rw [hrb1]; simp
  have hrbn1 : ∀ r, hget H1 r ≠ none → rb ≠ r := by
    intro r hr e
    subst e
    rw [hH1] at hr
    simp only [withRec, hget, hbeq hrbr, hbeq hrbd] at hr
    exact hr hCb
  have hTk1 : ∀ t d, tget (keptT rd dd (w.heap.size + 1) w.heap.size Tk) t = some d → d.p ε1 W (Am.reg c (hget HA) φ1) (a.tmps.getD t undef) := by
    intro t d ht
    simp only [keptT, tget] at ht
    cases hq : Nat.beq t 2000000 with
    | true => rw [hq] at ht; injection ht with ht; subst ht; exact erd
    | false =>
      rw [hq] at ht
      cases hq2 : Nat.beq t 2000001 with
      | true => rw [hq2] at ht; injection ht with ht; subst ht; exact edd
      | false => rw [hq2] at ht; exact hs2.t t d (hTk t d ht)
  have hsz : a.tmps.size = c.n := hs.sz
  have hY : YieldC P (w.heap.size + 1) (keptT rd dd (w.heap.size + 1) w.heap.size Tk) a.tmps (fun st => withRec rd dd (.loop (recOf fn a.tmps p assign body w.heap.size (stat st) (pend j st))) C st) dx step :=
    yield_of hn hne (hTn _ _) hHn hdx (by rw [hsz]; exact hp) 2000000 rfl Hx (fun β x => T1 β (w.heap.size + 1) w.heap.size x) (fun β x => hT1 β _ _ x) (fun s x st hst A w0 L β => by rw [hsz]; exact ha _ _ _ s x st hst A w0 L β) (fun s x st hst A w0 L β => by rw [hsz]; exact hb _ _ _ s x st hst A w0 L β)
  have hc := hcall _ _ fn a.tmps hY
  refine ⟨w.heap.size + 1, [mark w.heap.size], W, { target := .fn (.func f) #[u], args := #[.func (.yield (w.heap.size + 1)) #[] #[]] }, W, f, #[.func (.yield (w.heap.size + 1)) #[] #[], u], W, ?_, ?_, fun _ _ => trivial, ?_, fun hd => by simp [Fence.wide] at hd, callsIn_wide.2 ?_⟩
  · rw [← hW]; exact run_enterLoop_outer _ _ _ _ _
  · simp only [resolve, eg]
    simp [go_sem]
  · have hok' := hok
    unfold fnOk at hok'
    cases hf : P.funcs[f]? with
    | none => simp [hf] at hok'
    | some fn' =>
      simp only [hf, Bool.and_eq_true, Bool.not_eq_true'] at hok'
      have hbn : fn'.body.isNone = false := by cases h : fn'.body <;> simp_all
      simp only [invoke, callFunc, Sem.run_bind, run_program, Result.andThen_ok, hf, hok'.1, Bool.false_eq_true, if_false, hbn]
      simp
  -- the call
  let ε2 : Env := fun r => if r = 0 then ε1 rb else undef
  let F1 : Reg := fun k => ∃ r, hget H1 r ≠ none ∧ φ1 r k
  let φ2 : Nat → Reg := fun r => if r = 0 then φ1 rb else F1
  have hget2 : ∀ {x y : Hp} {r : Nat} {h : Hp}, hget [(0, x), (1, y)] r = some h → (r = 0 ∧ h = x) ∨ (r = 1 ∧ h = y) := by
    intro x y r h hr
    simp only [hget] at hr
    cases hq : Nat.beq r 0 with
    | true => rw [hq] at hr; injection hr with hr; exact .inl ⟨Nat.eq_of_beq_eq_true hq, hr.symm⟩
    | false =>
      rw [hq] at hr
      cases hq2 : Nat.beq r 1 with
      | true => rw [hq2] at hr; injection hr with hr; exact .inr ⟨Nat.eq_of_beq_eq_true hq2, hr.symm⟩
      | false => rw [hq2] at hr; cases hr
  have hget2n : ∀ {x y : Hp} {r : Nat}, hget [(0, x), (1, y)] r ≠ none → r = 0 ∨ r = 1 := by
    intro x y r hr
    cases hq : hget [(0, x), (1, y)] r with
    | none => exact absurd hq hr
    | some h => exact (hget2 hq).imp (·.1) (·.1)
  refine (hc.calls (Am.reg c (hget HA) φ1) W ε2 φ2 [.func (.yield (w.heap.size + 1)) #[] #[], u] ?_ ?_ ?_ ⟨rfl, ?_, trivial⟩).mono ?_
  · intro r hr k hk
    rcases hget2n hr with rfl | rfl
    · exact ⟨fun h => h.2 rb hrb1n hk, (hs2.lo rb hrb1n k hk).2⟩
    · obtain ⟨r, hr, hf⟩ := hk
      exact ⟨fun h => h.2 r (hin1n r hr) hf, (hs2.lo r (hin1n r hr) k hf).2⟩
  · intro r r' hr hr' hne' k hk hk'
    rcases hget2n hr with rfl | rfl <;> rcases hget2n hr' with rfl | rfl
    · exact hne' rfl
    · obtain ⟨r, hr, hf⟩ := hk'
      exact hs2.dj rb r hrb1n (hin1n r hr) (hrbn1 r hr) k hk hf
    · obtain ⟨r, hr, hf⟩ := hk
      exact hs2.dj rb r hrb1n (hin1n r hr) (hrbn1 r hr) k hk' hf
    · exact hne' rfl
  · intro r h hr
    rcases hget2 hr with ⟨rfl, rfl⟩ | ⟨rfl, rfl⟩
    · exact (Hp.box tb lb).mono (hs2.h rb _ hrb1) (fun r hr => by rw [show (Hp.box tb lb).nm = nms lb from rfl, hlb] at hr; cases hr) (fun _ hk _ => ⟨hk, rfl⟩) (fun _ _ => rfl)
    · refine ⟨ε1, φ1, hTk1, ?_, ?_, fun r hr k hk => ?_, fun k ⟨r, hr, hf⟩ => ?_⟩
      · exact fun r h hr => hs2.h r h (hin1 r h (by rw [hH1]; exact hr))
      · exact fun r r' hr hr' => hs2.dj r r' (hin1n r (by rw [hH1]; exact hr)) (hin1n r' (by rw [hH1]; exact hr'))
      · exact ⟨r, by rw [hH1]; exact hr, hk⟩
      · exact ⟨(hs2.lo r (hin1n r hr) k hf).2, r, by rw [hH1] at hr; exact hr, hf⟩
  · show u = _
    rw [eu]
    show _ = Value.pointer (some ⟨blk (ε1 rb), 0, none⟩)
    rw [erb]
  rintro e w3 ⟨v, ε', φ', rfl, hε', _, hp', hlo', hdj', hbel'⟩
  obtain ⟨ε3, φ3, k1, k2, k3, k4, k5⟩ := hp' 1 _ rfl
  have hloan : ∀ k, loan [(0, Hp.box tb lb), (1, Hp.caller (keptT rd dd (w.heap.size + 1) w.heap.size Tk) a.tmps (withRec rd dd (.loop (recOf fn a.tmps p assign body w.heap.size (stat (.next s0 : St σ ρ)) (pend j (.next s0 : St σ ρ)))) C (.next s0)))] φ2 k → c.base ≤ k ∨ c.L k := by
    rintro k ⟨r, hr, hf⟩
    rcases hget2n hr with rfl | rfl
    · exact (hs2.lo rb hrb1n k hf).1
    · obtain ⟨r, hr, hf⟩ := hf
      exact (hs2.lo r (hin1n r hr) k hf).1
  have hF1 : ∀ k, φ' 1 k → (c.base ≤ k ∨ c.L k) ∧ k < w3.heap.size := fun k hk => by
    have := hlo' 1 (by simp [hget]) k hk
    refine ⟨?_, this.2⟩
    rcases this.1 with h | h
    · exact .inl (Nat.le_trans hs2.base_le h)
    · exact hloan k h
  have hregE : ∀ {HE : List (Nat × Hp)}, (∀ r, hget HE r ≠ none → ∀ k, φ3 r k → φ' 1 k) → ∀ k, Am.reg ⟨Am.reg c (hget HA) φ1, W.heap.size, W, 0, loan [(0, Hp.box tb lb), (1, Hp.caller (keptT rd dd (w.heap.size + 1) w.heap.size Tk) a.tmps (withRec rd dd (.loop (recOf fn a.tmps p assign body w.heap.size (stat (.next s0 : St σ ρ)) (pend j (.next s0 : St σ ρ)))) C (.next s0)))] φ2⟩ (hget [(0, .box tb lb'), (1, .caller (keptT rd dd (w.heap.size + 1) w.heap.size Tk) a.tmps (withRec rd dd (.loop (recOf fn a.tmps p assign body w.heap.size (stat stE) (pend j stE))) C stE))]) φ' k →
      Am.reg c (hget HE) φ3 k := by
    intro HE hHE k ⟨h1, h2⟩
    refine ⟨?_, fun r hr hf => h2 1 (by simp [hget]) (hHE r hr k hf)⟩
    rcases h1 with h | h | h
    · exact h.1
    · exact .inr (.inl (Nat.le_trans hs2.base_le h))
    · exact .inr (hloan k h)
  have hS : Sat c (tget (keptT rd dd (w.heap.size + 1) w.heap.size Tk)) (hget (withRec rd dd (.loop (recOf fn a.tmps p assign body w.heap.size (stat stE) (pend j stE))) C stE)) a w3 := by
    refine ⟨ε3, φ3, ?_⟩
    constructor
    · exact fun t d ht => d.mono (k1 t d ht) (fun _ _ => rfl) (fun k hk _ => ⟨hregE k4 k hk, rfl⟩)
    · exact fun t d ht r hr => allIn_get (hTn _ _ _ _) r (nmsT_get ht r hr)
    · exact fun r h hr => h.mono (k2 r h hr) (fun _ _ => rfl) (fun k hk _ => ⟨hregE k4 k hk, rfl⟩) (fun _ _ => rfl)
    · exact nmsH_in (by
        show allIn _ (nmsH (C stE)) = true
        exact hHn _ _)
    · exact fun r hr k hk => hF1 k (k4 r hr k hk)
    · exact k3
    · refine hs2.bel.trans ⟨hbel'.os, hbel'.tape, hbel'.output, hbel'.size, fun k hk hl => hbel'.block k (Nat.lt_of_lt_of_le hk hs2.base_le) (fun hf => ?_)⟩
      rcases hloan k hf with h | h
      · omega
      · exact hl h
    · exact hs.bs
    · exact hs.sz
    · exact hs.df
  obtain ⟨hl3, hS4⟩ := obj_set (.loop { recOf fn a.tmps p assign body w.heap.size (stat stE) (pend j stE) with state := .exhausted }) hS (fun ε φ hs => hs.t 2000000 _ rfl)
  refine ⟨pend j stE, _, run_endLoop (P := P) hl3 (by cases stE <;> simp [recOf, stat]), ?_⟩
  have hdf : a.defers = [] := hs.df
  have hfin := hQ (w.heap.size + 1) w.heap.size _ { a with defers := [mark w.heap.size] ++ a.defers } _ (by simp [hdf]) (by
    have e1 : ({ ({ a with defers := [mark w.heap.size] ++ a.defers } : Act) with defers := [] } : Act) = a := by
      cases a; simp only at hdf; subst hdf; rfl
    rw [e1]; exact hS4)
  cases stE with
  | next s => exact hfin
  | done r => exact wpIn_exit hfin
def OkD (P : Program) (ds : List Deferred) (c : Ctx) (T : List (Nat × D)) (H : List (Nat × Hp)) (x : Code) (Q : Exit → Act → World → Prop) : Prop :=
  ∀ a w, a.defers = ds → Sat c (tget T) (hget H) { a with defers := [] } w → x.wp P Q a w
theorem put_fr (a : Act) (xs : List Deferred) (dst : Option Nat) (v : Value) : ({ a with defers := xs } : Act).put dst v = { a.put dst v with defers := xs } := by cases dst <;> rfl
theorem upon_df {o : Oper} {a : Act} {xs ds : List Deferred} {next next' : Act → World → Prop} {S : Act → World → Prop} {Q' : Exit → Act → World → Prop} (hn : ∀ (b : Act) (ys : List Deferred) (w : World), next { b with defers := ys } w → next' { b with defers := ys ++ ds } w) : ∀ {r : Result Next}, o.upon P { a with defers := xs } next (fun e a w => e = .normal ∧ S a w) r → o.upon P { a with defers := xs ++ ds } next' Q' r
  | .ok (.value v) w', h => by
    rw [Oper.upon_value, put_fr] at *
    exact hn _ _ _ h
  | .ok .skip w', h => by
    rw [Oper.upon_skip, put_fr] at *
    exact hn _ _ _ h
  | .ok (.defer d) w', h => by
    rw [Oper.upon_defer] at *
    exact (put_fr a (d :: (xs ++ ds)) o.dst undef) ▸ hn (a.put o.dst undef) (d :: xs) w' ((put_fr a (d :: xs) o.dst undef) ▸ h)
  | .ok (.enter f args) w', h => Calls.mono h fun e w'' hr => by
      cases e with
      | returned v =>
        simp only at hr ⊢
        rw [put_fr] at *
        exact hn _ _ _ hr
      | panicked chain => exact absurd hr.1 (by simp)
      | outgrown => obtain ⟨a, w, he, _⟩ := hr; cases he
  | .ok (.row row args) w', h => Rows.mono h fun v w'' hr => by
      rw [put_fr] at *
      exact hn _ _ _ hr
  | .halt (.panic v) w', h => absurd h.1 (by simp)
  | .ok (.round ..) _, h => h.elim
theorem ops_df {ds : List Deferred} {ops : Array Oper} {S : Act → World → Prop} : ∀ (is : List Nat) (xs : List Deferred) (a : Act) (w : World),
    wpOps P ops (fun e a w => e = .normal ∧ S a w) is { a with defers := xs } w → wpOps P ops (fun e a w => e = .normal ∧ ∃ ys, a.defers = ys ++ ds ∧ S { a with defers := ys } w) is { a with defers := xs ++ ds } w
  | [], xs, a, w, h => ⟨h.1, xs, rfl, h.2⟩
  | i :: rest, xs, a, w, h => by
    unfold wpOps at h ⊢
    cases ho : ops[i]? with
    | none => rw [ho] at h; exact ops_df rest xs a w h
    | some o =>
      rw [ho] at h
      simp only at h ⊢
      split
      · rename_i hw1
        rw [if_pos hw1] at h
        rcases h with h | h
        · refine .inl ?_
          unfold Oper.wp at h ⊢
          have he : ({ a with defers := xs } : Act).eval = ({ a with defers := xs ++ ds } : Act).eval := by funext x; cases x <;> rfl
          rw [he] at h
          exact upon_df (fun b ys w hk => ops_df rest ys b w hk) h
        · obtain ⟨_, a, w, he, _⟩ := h; cases he
      · rename_i hw1
        rw [if_neg hw1] at h
        rw [put_fr] at h ⊢
        exact ops_df rest xs _ w h
theorem ops_df0 {ds : List Deferred} {ops : Array Oper} {c : Ctx} {T : List (Nat × D)} {H : List (Nat × Hp)} (is : List Nat) (a : Act) (w : World) (ha : a.defers = ds)
    (h : wpOps P ops (fun e a w => e = .normal ∧ Sat c (tget T) (hget H) a w) is { a with defers := [] } w) : wpOps P ops (fun e a w => e = .normal ∧ ∃ ys, a.defers = ys ++ ds ∧ Sat c (tget T) (hget H) { a with defers := ys } w) is a w := by
  have := ops_df (ds := ds) is [] a w h
  have e : ({ a with defers := [] ++ ds } : Act) = a := by subst ha; rfl
  rw [e] at this
  exact this
theorem OkR.cTb {c : Ctx} {T : List (Nat × D)} {H : List (Nat × Hp)} {Q : Exit → Act → World → Prop} {x y : Code} {o : Operand} {b : Bool} (h : ev T o = some (.bool b)) (hb : b = true) (k : OkR P c T H x Q) : OkR P c T H (.cond o x y) Q := by subst hb; exact .cT h k
theorem OkR.cFb {c : Ctx} {T : List (Nat × D)} {H : List (Nat × Hp)} {Q : Exit → Act → World → Prop} {x y : Code} {o : Operand} {b : Bool} (h : ev T o = some (.bool b)) (hb : ¬ b = true) (k : OkR P c T H y Q) : OkR P c T H (.cond o x y) Q := by
  have : b = false := by simpa using hb
  subst this; exact .cF h k
theorem OkR.on {c : Ctx} {T : List (Nat × D)} {H : List (Nat × Hp)} {Q : Exit → Act → World → Prop} {y : Code} (h : OkR P c T H y Q) : ∀ a w, Sat c (tget T) (hget H) a w → (Exit.then (fun a w => ∀ l n, y.wpIn (FR l) n P Q a w) Q) .normal a w := fun a w hs l n => h l n a w hs
section
variable {ds : List Deferred} {c : Ctx} {T T' : List (Nat × D)} {H H' : List (Nat × Hp)} {Q : Exit → Act → World → Prop} {x y : Code} {id : Nat} {sps : List Spec}
theorem df_nil {c : Ctx} {T : List (Nat × D)} {H : List (Nat × Hp)} {a : Act} {ys : List Deferred} {w : World} (h : a.defers = ys ++ ds) (hs : Sat c (tget T) (hget H) { a with defers := ys } w) : a.defers = ds ∧ Sat c (tget T) (hget H) { a with defers := [] } w := by
  obtain ⟨ε, φ, hs0⟩ := hs
  have : ys = [] := hs0.df
  subst this
  exact ⟨h, ε, φ, hs0⟩
theorem OkD.regionD {l : List Oper} (hm : P.follows .mixedOrders = true) (h : Runs P l.toArray c l T H sps T' H') (hd : dstsOk c.n l = true) (hord : ordOk [] [] 0 (l.zip sps) = true) (hQ : ∀ a w, a.defers = ds → Sat c (tget T') (hget H') { a with defers := [] } w → Q .normal a w) : OkD P ds c T H (.region id l.toArray true) Q := by
  intro a w ha hs
  refine wp_mono (wp_region_draw (fun t => ops_df0 (c := c) (T := T') (H := H') _ a _ ha ?_)) ?_
  · simp only [Region.schedule, hm, Bool.true_or, if_true]
    exact wpAny_sound l.toArray.size t _ _ _ (h.anyOrder hd hord (Q := fun e a w => e = .normal ∧ Sat c (tget T') (hget H') a w) (fun a w hs => ⟨rfl, hs⟩) _ w hs)
  · rintro e a w ⟨rfl, ys, h1, h2⟩
    obtain ⟨h3, h4⟩ := df_nil h1 h2
    exact hQ a w h3 h4
theorem OkD.regD {l : List Oper} (hm : P.follows .mixedOrders = true) (h : Runs P l.toArray c l T H sps T' H') (hd : dstsOk c.n l = true) (hord : ordOk [] [] 0 (l.zip sps) = true) (hy : OkD P ds c T' H' y Q) : OkD P ds c T H (.seq (.region id l.toArray true) y) Q :=
  fun a w ha hs => wp_seq (OkD.regionD hm h hd hord (fun a w ha hs => hy a w ha hs) a w ha hs)
theorem Sat.endM {fn : Func} {xs : List ResultVar} {dl : List D} {d : D} {Hi Ho : List (Nat × Hp)} {b : Nat → Value} {dd D0 n : Nat} {a : Act} {w : World} (hd : a.defers = [mark D0]) (hs : Sat c (tget T) (hget ((dd, .obj (.deferred (some []))) :: H)) { a with defers := [] } w)
    (hpin : ∀ ε φ, SatE c (tget T) (hget ((dd, .obj (.deferred (some []))) :: H)) { a with defers := [] } w ε φ → ε dd = ptrTo D0) (hx : fn.results = xs.toArray) (h : RVL P c T ((dd, .obj (.deferred none)) :: H) xs dl) (hle : Le (resD dl) d) (hT : subT T (pins b (names Hi))) (hH : subH ((dd, .obj (.deferred none)) :: H) Ho) :
    bodyPostM Fence.wide n P fn (RetG c Hi Ho b d) .ret a w := by
  obtain ⟨hD, hS⟩ := obj_set (.deferred none) hs hpin
  obtain ⟨_, v, hv, hR⟩ := Sat.retG hx h hle hT hH _ _ hS
  show LeavesInM _ _ P fn a.tmps _ a.defers .returning w
  rw [hd]
  exact ⟨by simp, .inl ⟨D0, _, rfl, run_takeDeferred hD, v, hv, hR⟩⟩
theorem bodyM_of {fn : Func} {R : Ending → World → Prop} {n : Nat} : ∀ a w, bodyPost P fn R .ret a w → bodyPostM Fence.wide n P fn R .ret a w := by
  rintro a w ⟨ha, v, hv, hR⟩
  show LeavesInM _ _ P fn a.tmps _ a.defers .returning w
  rw [ha]
  exact ⟨v, hv, hR⟩
end
theorem CtrG.ofM {f : FuncId} {fn : Func} {x : Code} {Hi Ho : List (Nat × Hp)} {ds : List D} {d : D} (hf : P.funcs[f]? = some fn) (hb : fn.body = some x) (hok : fnOk P f = true) (hd : allIn Hi (nms ds) = true) (hni : allIn Hi (nmsH Hi) = true) (hno : allIn Ho (nmsH Ho) = true) (hnr : allIn Ho d.nm = true) (hk : allIn Ho (names Hi) = true)
    (hl : Nat.ble ds.length fn.ntmps = true) (h : ∀ A w0 L b, Ok P ⟨A, w0.heap.size, w0, fn.ntmps, L⟩ (frame 0 ds ++ pins b (names Hi)) Hi x (bodyPostM Fence.wide 0 P fn (RetG ⟨A, w0.heap.size, w0, fn.ntmps, L⟩ Hi Ho b d))) : CtrG P f Hi ds Ho d where
  ok := hok
  nmd := hd
  nmi := hni
  nmo := hno
  nmr := hnr
  keep := hk
  calls := by
    intro A w ε φ vs hlo hdj hp hv
    refine Calls.mono (callsIn_wide.1 (callsIn_of_wp_marks hf hb trivial (wpIn_wide.2 (h A w (loan Hi φ) ε _ _ ⟨ε, φ, ?_⟩)))) (fun e w' ⟨v, ε', φ', e', hε, hB⟩ => ⟨v, ε', φ', e', hε, hB⟩)
    have hlen := all2_length hv
    have hl' := Nat.le_of_ble_eq_true hl
    have hreg : ∀ k, A k → k < w.heap.size → reg ⟨A, w.heap.size, w, fn.ntmps, loan Hi φ⟩ (hget Hi) φ k ∧ w.heap[k]? = w.heap[k]? := fun k hk _ => ⟨⟨.inl hk, fun r hr hf => (hlo r hr k hf).1 hk⟩, rfl⟩
    constructor
    · intro t d' ht
      rcases tget_append ht with ht | ht
      · obtain ⟨j, v, e, hj, hp, _⟩ := frame_get hv ht
        have hjl : j < vs.length := (List.getElem?_eq_some_iff.1 hj).1
        have : (vs.toArray ++ Array.replicate (fn.ntmps - vs.toArray.size) undef).getD t undef = v := by
          simp only [Nat.zero_add] at e; subst e
          simp [Array.getD_eq_getD_getElem?, Array.getElem?_append, hjl]
          have := (List.getElem?_eq_some_iff.1 hj).2
          exact this
        rw [this]
        exact d'.mono hp (fun _ _ => rfl) hreg
      · obtain ⟨r, _, _, rfl⟩ := pins_get ht
        rfl
    · intro t d' ht r hr
      rcases tget_append ht with ht | ht
      · obtain ⟨_, _, _, _, _, hm⟩ := frame_get hv ht
        exact allIn_get hd r (nms_mem.2 ⟨d', hm, hr⟩)
      · obtain ⟨r', hr', _, rfl⟩ := pins_get ht
        have : r = r' := by simpa [D.pinned] using hr
        subst this
        exact hget_none.2 hr'
    · exact fun r y hy => y.mono (hp r y hy) (fun _ _ => rfl) hreg (fun _ _ => rfl)
    · exact nmsH_in hni
    · exact fun r hr k hk => ⟨.inr ⟨r, hr, hk⟩, (hlo r hr k hk).2⟩
    · exact hdj
    · exact .of (Below.refl _ _)
    · rfl
    · simp [hlen]; omega
    · rfl
end
end Go.Am
namespace Go.Am
end Go.Am
namespace Go.Am
def better (a c b : Rat) : Prop := rabs (c - a) < rabs (b - a) ∨ (rabs (c - a) = rabs (b - a) ∧ (c.den < b.den ∨ (c.den = b.den ∧ c < b)))
def Best (a : Rat) (n : Nat) (r : Rat) : Prop := r.den ≤ n ∧ ∀ y : Rat, y.den ≤ n → ¬ better a y r
theorem better_trans {a x y z : Rat} (h1 : ¬ better a z y) (h2 : ¬ better a y x) : ¬ better a z x := by
  unfold better at *
  generalize rabs (x - a) = u at *
  generalize rabs (y - a) = v at *
  generalize rabs (z - a) = w at *
  generalize x.den = d at *
  generalize y.den = e at *
  generalize z.den = f at *
  grind
theorem better_irr (a x : Rat) : ¬ better a x x := by unfold better; grind
theorem better_asym {a x y : Rat} (h : better a x y) : ¬ better a y x := by
  unfold better at *
  generalize rabs (x - a) = u at *
  generalize rabs (y - a) = v at *
  generalize x.den = d at *
  generalize y.den = e at *
  grind
theorem better_tot {a x y : Rat} (h1 : ¬ better a x y) (h2 : ¬ better a y x) : x = y := by
  unfold better at *
  generalize rabs (x - a) = u at *
  generalize rabs (y - a) = v at *
  generalize x.den = d at *
  generalize y.den = e at *
  grind
theorem Best_uniq {a : Rat} {n : Nat} {r s : Rat} (h : Best a n r) (k : Best a n s) : r = s := better_tot (k.2 r h.1) (h.2 s k.1)
theorem far_lo {a z l : Rat} (h : z ≤ l) (k : l ≤ a) : ¬ better a z l := by
  unfold better rabs
  grind
theorem far_hi {a z r : Rat} (h : r ≤ z) (k : a ≤ r) : ¬ better a z r := by
  unfold better rabs
  grind
theorem frac_lt {m y : Int} {d q : Int} (hd : 0 < d) (hq : 0 < q) : ((y : Rat) / (q : Rat) < (m : Rat) / (d : Rat)) ↔ y * d < m * q := by
  have hd' : (0 : Rat) < (d : Rat) := by exact_mod_cast hd
  have hq' : (0 : Rat) < (q : Rat) := by exact_mod_cast hq
  rw [Rat.div_lt_iff hq', show (m : Rat) / (d : Rat) * (q : Rat) = ((m : Rat) * (q : Rat)) / (d : Rat) by grind, Rat.lt_div_iff hd']
  exact_mod_cast Iff.rfl
theorem num_den (z : Rat) : ((z.num : Int) : Rat) / (((z.den : Nat) : Int) : Rat) = z := by
  have := Rat.mkRat_self z
  rw [Rat.mkRat_eq_div] at this
  exact this
theorem farey {l1 d1 r1 d2 most : Int} (h1 : 0 < d1) (h2 : 0 < d2) (hdet : r1 * d1 - l1 * d2 = 1) (hm : most < d1 + d2) (z : Rat) (hz : (z.den : Int) ≤ most) : z ≤ (l1 : Rat) / (d1 : Rat) ∨ (r1 : Rat) / (d2 : Rat) ≤ z := by
  by_cases c1 : z ≤ (l1 : Rat) / (d1 : Rat)
  · exact .inl c1
  by_cases c2 : (r1 : Rat) / (d2 : Rat) ≤ z
  · exact .inr c2
  exfalso
  have c1 := Rat.not_le.1 c1
  have c2 := Rat.not_le.1 c2
  have hzd : 0 < (z.den : Int) := by have := z.den_nz; omega
  rw [← num_den z] at c1 c2
  rw [frac_lt hzd h1] at c1
  rw [frac_lt h2 hzd] at c2
  generalize (z.den : Int) = d at *
  generalize z.num = m at *
  have e1 : 1 * d2 ≤ (m * d1 - l1 * d) * d2 := Int.mul_le_mul_of_nonneg_right (by omega) (by omega)
  have e2 : 1 * d1 ≤ (r1 * d - m * d2) * d1 := Int.mul_le_mul_of_nonneg_right (by omega) (by omega)
  have e3 : (m * d1 - l1 * d) * d2 + (r1 * d - m * d2) * d1 = d := by
    have : (m * d1 - l1 * d) * d2 + (r1 * d - m * d2) * d1 = d * (r1 * d1 - l1 * d2) := by grind
    rw [this, hdet]; omega
  omega
theorem den_le {l d : Int} (h : 0 < d) : (((l : Rat) / (d : Rat)).den : Int) ≤ d := by
  obtain ⟨n, rfl⟩ := Int.eq_ofNat_of_zero_le (Int.le_of_lt h)
  have e : ((l : Rat) / (((n : Nat) : Int) : Rat)) = mkRat l n := by rw [Rat.mkRat_eq_div]; rfl
  rw [e]
  have hn : n ≠ 0 := by omega
  have := mk_den_le l n hn
  omega
theorem best_of {a : Rat} {l1 d1 r1 d2 most : Int} (h1 : 0 < d1) (h2 : 0 < d2) (hd1 : d1 ≤ most) (hd2 : d2 ≤ most) (hdet : r1 * d1 - l1 * d2 = 1) (hm : most < d1 + d2) (ha : (l1 : Rat) / (d1 : Rat) ≤ a) (hb : a ≤ (r1 : Rat) / (d2 : Rat)) {r : Rat}
    (hr : r = (l1 : Rat) / (d1 : Rat) ∨ r = (r1 : Rat) / (d2 : Rat)) (k1 : ¬ better a ((l1 : Rat) / (d1 : Rat)) r) (k2 : ¬ better a ((r1 : Rat) / (d2 : Rat)) r) : Best a most.toNat r := by
  have e1 := den_le (l := l1) h1
  have e2 := den_le (l := r1) h2
  refine ⟨by rcases hr with rfl | rfl <;> omega, fun y hy => ?_⟩
  rcases farey h1 h2 hdet hm y (by omega) with h | h
  · exact better_trans (far_lo h ha) k1
  · exact better_trans (far_hi h hb) k2
theorem cmpq_lt {x y : Rat} : cmpq x y < 0 ↔ x < y := by unfold cmpq; grind
theorem cmpq_zero {x y : Rat} : cmpq x y = 0 ↔ x = y := by unfold cmpq; grind
theorem closer_iff (a c b : Rat) : closer a c b = true ↔ better a c b := by
  unfold closer better cmpn
  simp only [Bool.or_eq_true, Bool.and_eq_true, decide_eq_true_eq, beq_iff_eq, cmpq_lt, cmpq_zero]
  have h1 : (if c.den < b.den then (-1 : Int) else if b.den < c.den then 1 else 0) < 0 ↔ c.den < b.den := by grind
  have h2 : (if c.den < b.den then (-1 : Int) else if b.den < c.den then 1 else 0) = 0 ↔ c.den = b.den := by grind
  rw [h1, h2]
theorem nearS_best (a : Rat) (n j : Nat) (b : Rat) : ¬ better a b (nearS a n j b) ∧ ¬ better a (mkRat ((a * (n : Int)).floor + (j : Int)) n) (nearS a n j b) ∧ (nearS a n j b = b ∨ nearS a n j b = mkRat ((a * (n : Int)).floor + (j : Int)) n) := by
  unfold nearS
  by_cases h : closer a (mkRat ((a * (n : Int)).floor + (j : Int)) n) b = true
  · rw [if_pos h]
    exact ⟨better_asym ((closer_iff _ _ _).1 h), better_irr _ _, .inr rfl⟩
  · rw [if_neg h]
    exact ⟨better_irr _ _, fun hb => h ((closer_iff _ _ _).2 hb), .inl rfl⟩
theorem nearR_best (a : Rat) : ∀ n : Nat, (nearR a n).den ≤ max 1 n ∧ ∀ y : Rat, y.den ≤ n → ¬ better a y (nearR a n)
  | 0 => ⟨by show ((a.floor : Int) : Rat).den ≤ 1; rw [Rat.den_intCast]; exact Nat.le_refl _, fun y hy => absurd hy (by have := y.den_nz; omega)⟩
  | n + 1 => by
    obtain ⟨h1, h2⟩ := nearR_best a n
    obtain ⟨a1, a2, a3⟩ := nearS_best a (n + 1) 0 (nearR a n)
    obtain ⟨b1, b2, b3⟩ := nearS_best a (n + 1) 1 (nearS a (n + 1) 0 (nearR a n))
    show (nearS a (n + 1) 1 (nearS a (n + 1) 0 (nearR a n))).den ≤ _ ∧ ∀ y : Rat, y.den ≤ n + 1 → ¬ better a y (nearS a (n + 1) 1 (nearS a (n + 1) 0 (nearR a n)))
    generalize hr1 : nearS a (n + 1) 0 (nearR a n) = r1 at *
    generalize hr2 : nearS a (n + 1) 1 r1 = r2 at *
    generalize nearR a n = r0 at *
    have hd : ∀ j : Int, (mkRat ((a * ((n + 1 : Nat) : Int)).floor + j) (n + 1)).den ≤ n + 1 := fun j => mk_den_le _ _ (by omega)
    refine ⟨?_, fun y hy => ?_⟩
    · have := hd 0
      have := hd 1
      have h5 : r1.den ≤ max 1 (n + 1) := by
        rcases a3 with h | h
        · rw [h]; omega
        · rw [h]; have := hd ((0 : Nat) : Int); omega
      rcases b3 with h | h
      · rw [h]; exact h5
      · rw [h]; have := hd ((1 : Nat) : Int); omega
    · by_cases hyn : y.den ≤ n
      · exact better_trans (better_trans (h2 y hyn) a1) b1
      · have hyd : y.den = n + 1 := by omega
        have hn0 : (0 : Rat) < ((n + 1 : Nat) : Int) := by exact_mod_cast (by omega : (0 : Int) < ((n + 1 : Nat) : Int))
        have ey : y = (y.num : Rat) / (((n + 1 : Nat) : Int) : Rat) := by rw [← hyd]; exact (num_den y).symm
        have hm : ∀ z : Int, mkRat z (n + 1) = (z : Rat) / (((n + 1 : Nat) : Int) : Rat) := fun z => by rw [Rat.mkRat_eq_div]; rfl
        have hlo := Rat.floor_le (a * ((n + 1 : Nat) : Int))
        have hhi := Rat.lt_floor_add_one (a * ((n + 1 : Nat) : Int))
        generalize hF : (a * ((n + 1 : Nat) : Int)).floor = F at *
        have div_le : ∀ u v : Rat, u ≤ v → u / (((n + 1 : Nat) : Int) : Rat) ≤ v / (((n + 1 : Nat) : Int) : Rat) := fun u v h => Rat.not_lt.1 (fun h2 => by
          rw [Rat.div_lt_iff hn0, Rat.div_mul_cancel (by grind)] at h2
          exact absurd h2 (Rat.not_lt.2 h))
        have ea : a = (a * ((n + 1 : Nat) : Int)) / (((n + 1 : Nat) : Int) : Rat) := by rw [Rat.mul_div_cancel (by grind)]
        by_cases hc : y.num ≤ F
        · refine better_trans (better_trans (far_lo (l := mkRat (F + ((0 : Nat) : Int)) (n + 1)) ?_ ?_) a2) b1
          · rw [ey, hm]; apply div_le; exact_mod_cast (by omega)
          · rw [hm]; rw [ea]; apply div_le; rw [show F + ((0 : Nat) : Int) = F by omega]; exact hlo
        · refine better_trans (far_hi (r := mkRat (F + ((1 : Nat) : Int)) (n + 1)) ?_ ?_) b2
          · rw [ey, hm]; apply div_le; exact_mod_cast (by omega)
          · rw [hm]; rw [ea]; apply div_le; exact Rat.le_of_lt hhi
theorem nearR_Best (a : Rat) (n : Nat) (h : 1 ≤ n) : Best a n (nearR a n) := by
  have := nearR_best a n
  exact ⟨by have := this.1; omega, this.2⟩
structure CF (a : Rat) (most : Int) (t : Rat) (p q lp lq : Int) : Prop where
  hq : 0 ≤ q
  hlq : 0 ≤ lq
  mq : q ≤ most
  mlq : lq ≤ most
  det : p * lq - lp * q = 1 ∨ p * lq - lp * q = -1
  rel : a * (t * (q : Rat) + (lq : Rat)) = t * (p : Rat) + (lp : Rat)
  one : (q = 0 ∧ lq = 1) ∨ (1 ≤ q ∧ 1 ≤ t)
theorem CF_start (a : Rat) (most : Int) (h : 1 ≤ most) : CF a most a 1 0 0 1 where
  hq := by omega
  hlq := by omega
  mq := by omega
  mlq := h
  det := .inl (by omega)
  rel := by simp; grind
  one := .inl ⟨rfl, rfl⟩
theorem CF_next {a : Rat} {most : Int} {t : Rat} {p q lp lq : Int} (h : CF a most t p q lp lq) (hm : t.floor * q + lq ≤ most) (ht : t - (t.floor : Rat) ≠ 0) : CF a most (1 / (t - (t.floor : Rat))) (t.floor * p + lp) (t.floor * q + lq) p q := by
  have h1 := Rat.floor_le t
  have h2 := Rat.lt_floor_add_one t
  have h2' : t - (t.floor : Rat) < 1 := by
    have : ((t.floor + 1 : Int) : Rat) = (t.floor : Rat) + 1 := by simp
    rw [this] at h2; grind
  have hpos : 0 < t - (t.floor : Rat) := by grind
  have hq1 : 1 ≤ t.floor * q + lq := by
    rcases h.one with ⟨e1, e2⟩ | ⟨e1, e2⟩
    · rw [e1, e2]; omega
    · have h3 : 1 ≤ t.floor := Rat.le_floor_iff.2 (by simpa using e2)
      have h4 : 1 * q ≤ t.floor * q := Int.mul_le_mul_of_nonneg_right h3 h.hq
      have := h.hlq
      omega
  generalize hf : t.floor = n at *
  refine ⟨by omega, h.hq, hm, h.mq, ?_, ?_, .inr ⟨hq1, ?_⟩⟩
  · rcases h.det with e | e
    · right; grind
    · left; grind
  · have hr := h.rel
    have e1 : ((n * q + lq : Int) : Rat) = (n : Rat) * q + lq := by simp
    have e2 : ((n * p + lp : Int) : Rat) = (n : Rat) * p + lp := by simp
    rw [e1, e2]
    have hu : (1 / (t - (n : Rat))) * (t - (n : Rat)) = 1 := Rat.div_mul_cancel ht
    generalize 1 / (t - (n : Rat)) = u at *
    grind
  · have hu : (1 / (t - (n : Rat))) * (t - (n : Rat)) = 1 := Rat.div_mul_cancel ht
    rw [show (1 : Rat) ≤ 1 / (t - (n : Rat)) ↔ 1 * (t - (n : Rat)) ≤ 1 by
      constructor
      · intro h; grind
      · intro _
        exact Rat.not_lt.1 (fun h3 => by rw [Rat.div_lt_iff hpos] at h3; grind)]
    grind
theorem CF_break {a : Rat} {most : Int} {t : Rat} {p q lp lq k : Int} (hmost : 1 ≤ most) (h : CF a most t p q lp lq) (hm : most < t.floor * q + lq) (hk : k = (((most : Rat) - (lq : Rat)) / (q : Rat)).floor) :
    1 ≤ q ∧ 1 ≤ k * q + lq ∧ k * q + lq ≤ most ∧ ∀ r, (r = ((k * p + lp : Int) : Rat) / ((k * q + lq : Int) : Rat) ∨ r = (p : Rat) / (q : Rat)) → ¬ better a (((k * p + lp : Int) : Rat) / ((k * q + lq : Int) : Rat)) r → ¬ better a ((p : Rat) / (q : Rat)) r → Best a most.toNat r := by
  rcases h.one with ⟨e1, e2⟩ | ⟨hq1, ht⟩
  · exfalso; rw [e1, e2] at hm; omega
  have hqr : (0 : Rat) < (q : Rat) := by exact_mod_cast (by omega : (0 : Int) < q)
  have hlo : k * q ≤ most - lq := by
    have h1 := Rat.floor_le (((most : Rat) - (lq : Rat)) / (q : Rat))
    rw [← hk] at h1
    have h2 : ¬ (((most : Rat) - (lq : Rat)) / (q : Rat) < (k : Rat)) := Rat.not_lt.2 h1
    rw [Rat.div_lt_iff hqr] at h2
    have h3 := Rat.not_lt.1 h2
    exact_mod_cast h3
  have hhi : most - lq < (k + 1) * q := by
    have h1 := Rat.lt_floor_add_one (((most : Rat) - (lq : Rat)) / (q : Rat))
    rw [← hk, Rat.div_lt_iff hqr] at h1
    exact_mod_cast h1
  have hkn : k < t.floor := by
    apply Int.lt_of_not_ge
    intro h1
    have := Int.mul_le_mul_of_nonneg_right h1 h.hq
    omega
  have hk0 : 0 ≤ k := by
    apply Int.le_of_not_gt
    intro h1
    have h2 : (k + 1) * q ≤ 0 * q := Int.mul_le_mul_of_nonneg_right (by omega) h.hq
    have := h.mlq
    omega
  have e1 : (k + 1) * q = k * q + q := by grind
  have hkq : 0 ≤ k * q := Int.mul_nonneg hk0 h.hq
  have hlq := h.hlq
  have hmq := h.mq
  have hD : 1 ≤ k * q + lq := by omega
  refine ⟨hq1, hD, by omega, fun r hr k1 k2 => ?_⟩
  have htn : (t.floor : Rat) ≤ t := Rat.floor_le t
  have hkt : (k : Rat) < t := by
    have : (k : Rat) < (t.floor : Rat) := by exact_mod_cast hkn
    grind
  have hDr : (0 : Rat) < ((k * q + lq : Int) : Rat) := by exact_mod_cast (by omega : (0 : Int) < k * q + lq)
  have hlqr : (0 : Rat) ≤ (lq : Rat) := by exact_mod_cast hlq
  have hW : 0 < t * (q : Rat) + (lq : Rat) := by
    have : 0 < t * (q : Rat) := Rat.mul_pos (by grind) hqr
    grind
  have hrel := h.rel
  have f1 : (a * q - p) * (t * q + lq) = -((p * lq - lp * q : Int) : Rat) := by
    have : ((p * lq - lp * q : Int) : Rat) = (p : Rat) * lq - lp * q := by simp
    rw [this]; grind
  have f2 : (a * ((k * q + lq : Int) : Rat) - ((k * p + lp : Int) : Rat)) * (t * q + lq) = (t - k) * ((p * lq - lp * q : Int) : Rat) := by
    have : ((p * lq - lp * q : Int) : Rat) = (p : Rat) * lq - lp * q := by simp
    rw [this]
    have e2 : ((k * q + lq : Int) : Rat) = (k : Rat) * q + lq := by simp
    have e3 : ((k * p + lp : Int) : Rat) = (k : Rat) * p + lp := by simp
    rw [e2, e3]; grind
  have sgn_pos : ∀ u : Rat, 0 < u * (t * q + lq) → 0 < u := fun u hu => Rat.not_le.1 (fun hc => by
    have := Rat.mul_le_mul_of_nonneg_right hc (Rat.le_of_lt hW)
    grind)
  rcases h.det with hdet | hdet
  · -- x < a < y
    rw [hdet] at f1 f2
    have g1 : 0 < -(a * q - p) := sgn_pos _ (by grind)
    have g2 : 0 < a * ((k * q + lq : Int) : Rat) - ((k * p + lp : Int) : Rat) := sgn_pos _ (by rw [f2]; simp; grind)
    refine best_of (l1 := k * p + lp) (d1 := k * q + lq) (r1 := p) (d2 := q) (by omega) (by omega) (by omega) hmq (by grind) (by omega) ?_ ?_ hr k1 k2
    · exact Rat.not_lt.1 (fun hc => by rw [Rat.lt_div_iff hDr] at hc; grind)
    · exact Rat.not_lt.1 (fun hc => by rw [Rat.div_lt_iff hqr] at hc; grind)
  · rw [hdet] at f1 f2
    have g1 : 0 < a * q - p := sgn_pos _ (by rw [f1]; simp; grind)
    have g2 : 0 < -(a * ((k * q + lq : Int) : Rat) - ((k * p + lp : Int) : Rat)) := sgn_pos _ (by rw [Rat.neg_mul, f2]; simp; grind)
    refine best_of (l1 := p) (d1 := q) (r1 := k * p + lp) (d2 := k * q + lq) (by omega) (by omega) hmq (by omega) (by grind) (by omega) ?_ ?_ hr.symm k2 k1
    · exact Rat.not_lt.1 (fun hc => by rw [Rat.lt_div_iff hqr] at hc; grind)
    · exact Rat.not_lt.1 (fun hc => by rw [Rat.div_lt_iff hDr] at hc; grind)
theorem CF_end {a : Rat} {most : Int} {t : Rat} {p q lp lq : Int} (h : CF a most t p q lp lq) (hm : t.floor * q + lq ≤ most) (ht : t - (t.floor : Rat) = 0) : (a.den : Int) ≤ most := by
  have hq1 : 1 ≤ t.floor * q + lq := by
    rcases h.one with ⟨e1, e2⟩ | ⟨e1, e2⟩
    · rw [e1, e2]; omega
    · have h3 : 1 ≤ t.floor := Rat.le_floor_iff.2 (by simpa using e2)
      have h4 : 1 * q ≤ t.floor * q := Int.mul_le_mul_of_nonneg_right h3 h.hq
      have := h.hlq
      omega
  have e : a = ((t.floor * p + lp : Int) : Rat) / ((t.floor * q + lq : Int) : Rat) := by
    have hr := h.rel
    have ht' : t = (t.floor : Rat) := by grind
    have e1 : ((t.floor * q + lq : Int) : Rat) = t * q + lq := by
      have : ((t.floor * q + lq : Int) : Rat) = (t.floor : Rat) * q + lq := by simp
      rw [this, ← ht']
    have e2 : ((t.floor * p + lp : Int) : Rat) = t * p + lp := by
      have : ((t.floor * p + lp : Int) : Rat) = (t.floor : Rat) * p + lp := by simp
      rw [this, ← ht']
    have hne : ((t.floor * q + lq : Int) : Rat) ≠ 0 := by
      have : (0 : Rat) < ((t.floor * q + lq : Int) : Rat) := by exact_mod_cast (by omega : (0 : Int) < t.floor * q + lq)
      grind
    rw [e1] at hne ⊢
    rw [e2, ← hr, Rat.mul_div_cancel hne]
  have := den_le (l := t.floor * p + lp) (d := t.floor * q + lq) (by omega)
  rw [← e] at this
  omega
end Go.Am
namespace Go.Am
open Go.RowKit
set_option maxRecDepth 100000
noncomputable section
section
variable {P : Program} {n : Nat} {c : Ctx} {T T' : List (Nat × D)} {H H' : List (Nat × Hp)} {Q : Exit → Act → World → Prop} {ops : Array Oper}
theorem upon_wide {o : Oper} {a : Act} {next next' : Act → World → Prop} (hn : ∀ a w, next a w → next' a w) : ∀ {r : Result Next}, o.upon P a next Q r → o.uponIn Fence.wide n P a next' Q r
  | .ok (.value v) w', h => hn _ _ h
  | .ok .skip w', h => hn _ _ h
  | .ok (.defer d) w', h => hn _ _ h
  | .ok (.enter f args) w', h => ⟨fun hd => (by simp [Fence.wide] at hd), callsIn_wide.2 (Calls.mono h fun e w'' hr => by
      cases e with
      | returned v => exact hn _ _ hr
      | panicked chain => exact hr
      | outgrown => exact hr)⟩
  | .ok (.row row args) w', h => ⟨fun hd => (by simp [Fence.wide] at hd), fun c cs _ => let ⟨v, w', r, s⟩ := h c cs; ⟨v, w', hn _ _ r, stepsIn_wide.2 s⟩⟩
  | .halt (.panic v) w', h => h
  | .ok (.round ..) _, h => h.elim
theorem wide_runs {l : List Oper} {sps : List Spec} (h : Runs P ops c l T H sps T' H') : ∀ (k : Nat) (rest : List Nat), (∀ i, i < l.length → ops[k + i]? = l[i]?) → noDefer l = true → dstsOk c.n l = true →
    (∀ a w, Sat c (tget T') (hget H') a w → wpOpsIn Fence.wide n P ops Q rest a w) → ∀ a w, Sat c (tget T) (hget H) a w → wpOpsIn Fence.wide n P ops Q (List.range' k l.length ++ rest) a w := by
  induction h with
  | nil => exact fun k rest _ _ _ hk a w hs => hk a w hs
  | @cons o os T H sp sps T' H' hs hi hh hn _ ih =>
    intro k rest hops hnd hd hk a w hsat
    obtain ⟨h1, h2⟩ := dstsOk_cons hd
    have ho : ops[k]? = some o := by have := hops 0 (by simp); simpa using this
    have hnd0 := noDefer_get hnd 0 o (by simp)
    have hnd1 : noDefer os = true := by
      unfold noDefer at hnd ⊢
      rw [List.all_cons, Bool.and_eq_true] at hnd
      exact hnd.2
    have := hs h1 (tget T) (hget H) hi hh hn a w hsat Q (wpOpsIn Fence.wide n P ops Q (List.range' (k + 1) os.length ++ rest)) (fun a' w' hs' => ih (k + 1) rest (fun i hi => by
      have := hops (i + 1) (by simp; omega)
      rw [show k + 1 + i = k + (i + 1) by omega, this]; simp) hnd1 h2 hk a' w' (by rw [tget_tput, hget_append] at hs'; exact hs'))
    rw [List.length_cons, List.range'_succ, List.cons_append]
    unfold wpOpsIn
    rw [ho]
    simp only
    split
    · rename_i hw
      rw [if_pos hw] at this
      refine ⟨fun _ _ => trivial, ?_⟩
      rw [Oper.semAt_eq _ _ _ hnd0]
      exact upon_wide (fun _ _ h => h) this
    · rename_i hw
      rw [if_neg hw] at this
      exact ⟨fun _ _ => trivial, this⟩
theorem wide_region {id : Nat} {pre post : List Oper} {o : Oper} {T1 T2 T3 : List (Nat × D)} {H1 H2 H3 : List (Nat × Hp)} {sps sps2 : List Spec} (hpre : Runs P (pre ++ o :: post).toArray c pre T H sps T1 H1) (hn1 : noDefer pre = true) (hd1 : dstsOk c.n pre = true)
    (hg : o.guard = none) (ho : ∀ a w (K : Act → World → Prop), (∀ a' w', Sat c (tget T2) (hget H2) a' w' → K a' w') → Sat c (tget T1) (hget H1) a w → o.wpIn Fence.wide n P a w K Q)
    (hpost : Runs P (pre ++ o :: post).toArray c post T2 H2 sps2 T3 H3) (hn2 : noDefer post = true) (hd2 : dstsOk c.n post = true) (hQ : ∀ a w, Sat c (tget T3) (hget H3) a w → Q .normal a w) : Ok P c T H (.region id (pre ++ o :: post).toArray false) Q := by
  intro a w hs
  refine (wpIn_wide (n := n)).1 (wpIn_region ?_)
  have e1 : List.range (pre ++ o :: post).toArray.size = List.range' 0 pre.length ++ (pre.length :: (List.range' (pre.length + 1) post.length ++ [])) := by
    rw [List.range_eq_range', List.append_nil]
    have : (pre ++ o :: post).toArray.size = pre.length + (post.length + 1) := by simp
    rw [this, ← List.range'_append_1, List.range'_succ, Nat.zero_add]
  rw [e1]
  refine wide_runs hpre 0 _ (fun i hi => by simp [List.getElem?_append_left hi]) hn1 hd1 (fun a w hs => ?_) a w hs
  unfold wpOpsIn
  have e2 : (pre ++ o :: post).toArray[pre.length]? = some o := by simp
  rw [e2]
  simp only
  rw [if_pos (cell_wanted hg _)]
  refine ho a w _ (fun a' w' hs' => ?_) hs
  refine wide_runs hpost _ _ (fun i hi => ?_) hn2 hd2 (fun a w hs => ?_) a' w' hs'
  · rw [List.getElem?_toArray, List.getElem?_append_right (by omega), show pre.length + 1 + i - pre.length = i + 1 by omega, List.getElem?_cons_succ]
  · exact hQ a w hs
theorem yield_region {σ ρ α : Type} {l : Nat} {TC : List (Nat × D)} {tm : Array Value} {C : St σ ρ → List (Nat × Hp)} {dx : α → D} {step : σ → α → Option (St σ ρ)} {s : σ} {x0 : α} {st : St σ ρ} {id nc : Nat} {pre post : List Oper} {x y : Operand} {dst : Option Nat} {ty : TypeId} {pos : String} {aft : Array Edge} {ats : Array TypeId} {T1 T3 : List (Nat × D)} {H1 H3 : List (Nat × Hp)} {sps sps2 : List Spec}
    (hY : YieldC P l TC tm C dx step) (hst : step s x0 = some st) (hdx : (dx x0).nm = [])
    (hpre : Runs P (pre ++ ⟨dst, .call { callee := .value x, args := #[y], argTypes := ats }, ty, pos, aft, none⟩ :: post).toArray c pre T H sps T1 H1)
    (hx : ev T1 x = some (.lit (.func (.yield l) #[] #[]))) (hy : ev T1 y = some (dx x0)) (hH : hget H1 nc = some (.caller TC tm (C (.next s))))
    (hpost : Runs P (pre ++ ⟨dst, .call { callee := .value x, args := #[y], argTypes := ats }, ty, pos, aft, none⟩ :: post).toArray c post (tput T1 dst (.bool (goesOn st))) ((nc, .caller TC tm (C st)) :: H1) sps2 T3 H3)
    (hn1 : noDefer pre = true) (hn2 : noDefer post = true) (hd1 : dstsOk c.n pre = true) (hd2 : dstsOk c.n post = true) (hd : ∀ t, dst = some t → t < c.n)
    (hQ : ∀ a w, Sat c (tget T3) (hget H3) a w → Q .normal a w) : Ok P c T H (.region id (pre ++ ⟨dst, .call { callee := .value x, args := #[y], argTypes := ats }, ty, pos, aft, none⟩ :: post).toArray false) Q :=
  wide_region (n := 0) hpre hn1 hd1 rfl (fun _ _ _ hK hs => yield_op hY hst hx hy hdx hH hd hK hs) hpost hn2 hd2 hQ
end
theorem C_expansion (a : Rat) : CtrG PP 163 [] [qD a] [(1, Hp.box 28 (qC a))] (.clo 223 [] [.ref 1 0]) := by
  refine .of Go.Proofs.Tryz.func163 rfl (by kernel_rfl) rfl rfl rfl rfl rfl rfl (fun A w0 L b => ?_)
  show Ok PP _ [(0, qD a)] [] _ _
  refine .reg (.bxA rfl rfl <| .asg rfl <| .nil) rfl ?_
  refine .reg (.mkF (l := []) (m := [.ref 1 0]) trivial ⟨rfl, trivial⟩ <| .asg rfl <| .nil) rfl ?_
  exact .retG (fun _ _ hb => hb) rfl (.cons (.tmp rfl) .nil) (.refl _) trivial ⟨⟨_, rfl, .refl _⟩, trivial⟩
def expStep {σ ρ : Type} (step : σ → Rat → Option (St σ ρ)) (x : Rat × σ) : Option (St (Rat × σ) (Rat × St σ ρ)) :=
  (q_floor x.1).bind fun n => (step x.2 n).bind fun st => match st with
    | .done r => some (.done (x.1, .done r))
    | .next s => (q_sub x.1 n).bind fun a => (q_sign a).bind fun g => if (g == 0) = true then some (.done (a, .next s)) else (q_int 1).bind fun one => (q_over one a).bind fun b => some (.next (b, s))
theorem le_any (d : D) : Le d .any := ⟨fun _ _ _ _ _ => trivial, fun r hr => by cases hr⟩
theorem C_exp1 {σ ρ : Type} {l : Nat} {T : List (Nat × D)} {tm : Array Value} {C : St σ ρ → List (Nat × Hp)} {step : σ → Rat → Option (St σ ρ)} (hY : YieldC PP l T tm C qD step) {a aE : Rat} {s0 : σ} {stE : St σ ρ} (h : Loop (expStep step) (a, s0) = some (aE, stE)) :
    CtrG PP 223 [(0, .box 28 (qC a)), (1, .caller T tm (C (.next s0)))] [.lit (.func (.yield l) #[] #[]), .ref 0 0] [(0, .box 28 (qC aE)), (1, .caller T tm (C stE))] .any := by
  refine .of Go.Proofs.Tryz.func223 rfl (by kernel_rfl) rfl rfl rfl rfl rfl rfl (fun A w0 L b => ?_)
  show Ok PP _ [(0, .lit (.func (.yield l) #[] #[])), (1, .ref 0 0), (1000000, .pinned 0 (b 0)), (1000001, .pinned 1 (b 1))] [(0, .box 28 (qC a)), (1, .caller T tm (C (.next s0)))] _ _
  refine .block (.loopL (fun (s : Rat × σ) => [(0, D.lit (.func (.yield l) #[] #[])), (1, D.ref 0 0), (1000000, D.pinned 0 (b 0)), (1000001, D.pinned 1 (b 1))]) (fun (s : Rat × σ) => [(0, Hp.box 28 (qC s.1)), (1, Hp.caller T tm (C (.next s.2)))]) h ⟨⟨_, rfl, .refl _⟩, ⟨_, rfl, .refl _⟩, ⟨_, rfl, .refl _⟩, ⟨_, rfl, .refl _⟩, trivial⟩ ⟨⟨_, rfl, .refl _⟩, ⟨_, rfl, .refl _⟩, trivial⟩ rfl rfl ?_)
  rintro ⟨x, s⟩ st0 hb
  have h : expStep step (x, s) = some st0 := hb
  clear hb
  unfold expStep at h
  show Ok PP _ [(0, D.lit (.func (.yield l) #[] #[])), (1, D.ref 0 0), (1000000, D.pinned 0 (b 0)), (1000001, D.pinned 1 (b 1))] [(0, Hp.box 28 (qC x)), (1, Hp.caller T tm (C (.next s)))] _ _
  refine .block ?_
  obtain ⟨v, e1, h⟩ := bind_some h
  refine .reg (.ldE (qC x) rfl rfl ly_exact_Q rfl rfl <| .callG (Q_floor e1) ⟨rfl, trivial⟩ trivial trivial <| .alL (qC (0)) z_exact_Q ⟨zq1, zq2, zq3, trivial⟩ rfl <| .stE (qC v) rfl rfl rfl ly_exact_Q rfl rfl rfl <| .nil) rfl ?_
  obtain ⟨st, hst, h⟩ := bind_some h
  refine .sq ?_
  refine .seq (K := fun a w => Sat ⟨A, w0.heap.size, w0, Go.Proofs.Tryz.f223.ntmps, L⟩ (tget [(9, D.bool (!goesOn st)), (0, D.lit (.func (.yield l) #[] #[])), (1, D.ref 0 0), (3, D.ref 3 0), (1000000, D.pinned 0 (b 0)), (1000001, D.pinned 1 (b 1))]) (hget [(0, Hp.box 28 (qC x)), (1, Hp.caller T tm (C st)), (3, Hp.box 28 (qC v))]) a w) ?_ ?_
  · refine yield_region (pre := [_, _]) (post := [_]) (nc := 1) hY hst rfl (.mv rfl <| .ldE (qC v) rfl rfl ly_exact_Q rfl rfl <| .nil) rfl rfl rfl (.not rfl <| .nil) rfl rfl rfl rfl (fun t ht => by injection ht with ht; subst ht; exact Nat.le_of_ble_eq_true rfl) ?_
    exact fun a w hs => hs.sub ⟨⟨_, rfl, .refl _⟩, ⟨_, rfl, .refl _⟩, ⟨_, rfl, .refl _⟩, ⟨_, rfl, .refl _⟩, ⟨_, rfl, .refl _⟩, ⟨_, rfl, .refl _⟩, trivial⟩ ⟨⟨_, rfl, .refl _⟩, ⟨_, rfl, .refl _⟩, ⟨_, rfl, .refl _⟩, trivial⟩ rfl rfl
  show Ok PP _ [(9, D.bool (!goesOn st)), (0, D.lit (.func (.yield l) #[] #[])), (1, D.ref 0 0), (3, D.ref 3 0), (1000000, D.pinned 0 (b 0)), (1000001, D.pinned 1 (b 1))] [(0, Hp.box 28 (qC x)), (1, Hp.caller T tm (C st)), (3, Hp.box 28 (qC v))] _ _
  cases st with
  | done r =>
    refine .cT rfl ?_
    refine .retG (Hi := [(0, .box 28 (qC a)), (1, .caller T tm (C (.next s0)))]) (Ho := [(0, .box 28 (qC x)), (1, .caller T tm (C (.done r)))]) (b := b) (fn := Go.Proofs.Tryz.f223) (d := .any) (fun _ _ hb => by
      refine ⟨_, (Option.some.inj h).symm, fun e => ?_⟩
      injection e with e1 e2
      subst e1; subst e2
      exact hb) rfl .nil (le_any _) ⟨⟨_, rfl, .refl _⟩, ⟨_, rfl, .refl _⟩, trivial⟩ ⟨⟨_, rfl, .refl _⟩, ⟨_, rfl, .refl _⟩, trivial⟩
  | next s' =>
    simp only at h
    refine .cF rfl (.skip (Ok.on ?_))
    obtain ⟨v2, e2, h⟩ := bind_some h
    refine .sq ?_
    refine .reg (.ldE (qC x) rfl rfl ly_exact_Q rfl rfl <| .ldE (qC v) rfl rfl ly_exact_Q rfl rfl <| .callG (Q_sub e2) ⟨rfl, rfl, trivial⟩ trivial trivial <| .stE (qC v2) rfl rfl rfl ly_exact_Q rfl rfl rfl <| .nil) rfl ?_
    obtain ⟨v3, e3, h⟩ := bind_some h
    refine .reg (.ldE (qC v2) rfl rfl ly_exact_Q rfl rfl <| .callG (Q_sign e3) ⟨rfl, trivial⟩ trivial trivial <| .cm rfl rfl rfl <| .nil) rfl ?_
    by_cases c1 : (v3 == 0) = true
    · replace h := ite_pos_some c1 h
      refine .cTb rfl c1 ?_
      exact .retG (Hi := [(0, .box 28 (qC a)), (1, .caller T tm (C (.next s0)))]) (Ho := [(0, .box 28 (qC v2)), (1, .caller T tm (C (.next s')))]) (b := b) (fn := Go.Proofs.Tryz.f223) (d := .any) (fun _ _ hb => by
        refine ⟨_, (Option.some.inj h).symm, fun e => ?_⟩
        injection e with e1 e2
        subst e1; subst e2
        exact hb) rfl .nil (le_any _) ⟨⟨_, rfl, .refl _⟩, ⟨_, rfl, .refl _⟩, trivial⟩ ⟨⟨_, rfl, .refl _⟩, ⟨_, rfl, .refl _⟩, trivial⟩
    · replace h := ite_neg_some c1 h
      refine .cFb rfl c1 (.skip (Ok.on ?_))
      obtain ⟨v4, e4, h⟩ := bind_some h
      obtain ⟨v5, e5, h⟩ := bind_some h
      exact .regionD hmix (.callG (Q_int e4) ⟨rfl, trivial⟩ trivial trivial <| .ldE (qC v2) rfl rfl ly_exact_Q rfl rfl <| .callG (Q_over e5) ⟨rfl, rfl, trivial⟩ trivial trivial <| .stE (qC v5) rfl rfl rfl ly_exact_Q rfl rfl rfl <| .nil) rfl (by kernel_rfl)
        (fun _ _ hs => ⟨(v5, s'), (Option.some.inj h).symm, hs.sub ⟨⟨_, rfl, .refl _⟩, ⟨_, rfl, .refl _⟩, ⟨_, rfl, .refl _⟩, ⟨_, rfl, .refl _⟩, trivial⟩ ⟨⟨_, rfl, .refl _⟩, ⟨_, rfl, .refl _⟩, trivial⟩ rfl rfl⟩)
def hasAllT (T : List (Nat × D)) : List (Nat × D) → Prop
  | [] => True
  | (t, d) :: l => tget T t = some d ∧ hasAllT T l
theorem hasAllT_get {T : List (Nat × D)} : ∀ {l : List (Nat × D)}, hasAllT T l → ∀ t d, tget l t = some d → tget T t = some d
  | [], _, r, h, hh => by cases hh
  | (r0, h0) :: l, ha, r, h, hh => by
    simp only [tget] at hh
    cases hb : Nat.beq r r0 with
    | true => rw [hb] at hh; injection hh with hh; subst hh; rw [Nat.eq_of_beq_eq_true hb]; exact ha.1
    | false => rw [hb] at hh; exact hasAllT_get ha.2 r h hh
theorem inBlock_end {σ ρ : Type} {j : Nat} {Q : Exit → Act → World → Prop} {st : St σ ρ} {a : Act} {w : World} (h : Q .normal a w) : Exit.inBlock j Q (endExit j st) a w := by
  cases st with
  | next s => exact h
  | done r => exact blk_exit h
abbrev Ns := Rat × Rat × Rat × Rat
def Ns.fin : St Ns Ns → Ns
  | .next s => s
  | .done s => s
def nearStep (most : Int) (s : Ns) (n : Rat) : Option (St Ns Ns) :=
  (q_mul n s.2.1).bind fun v32 => (q_add v32 s.2.2.2).bind fun v34 => (q_int most).bind fun v37 => (q_cmp v34 v37).bind fun v38 =>
    if (decide (v38 > 0)) = true then (q_int most).bind fun v41 => (q_sub v41 s.2.2.2).bind fun v43 => (q_over v43 s.2.1).bind fun v45 => (q_floor v45).bind fun v46 => (q_mul v46 s.1).bind fun v49 => (q_add v49 s.2.2.1).bind fun v51 => (q_mul v46 s.2.1).bind fun v54 => (q_add v54 s.2.2.2).bind fun v56 => some (.done (v51, v56, s.1, s.2.1))
    else (q_mul n s.1).bind fun v61 => (q_add v61 s.2.2.1).bind fun v63 => some (.next (v63, v34, s.1, s.2.1))
def m_Near (a : Rat) (most : Int) : Option (Rat × Int) :=
  if (decide (most < 1)) = true then some (0, 3) else (q_den a).bind fun v17 => (q_int most).bind fun v19 => (q_cmp v17 v19).bind fun v20 => if (decide (v20 ≤ 0)) = true then some (a, 0) else (q_int 1).bind fun v23 => (q_int 0).bind fun v24 =>
    (Loop (expStep (nearStep most)) (a, (v23, v24, v24, v23))).bind fun x => (q_over (Ns.fin x.2).1 (Ns.fin x.2).2.1).bind fun v70 => (q_over (Ns.fin x.2).2.2.1 (Ns.fin x.2).2.2.2).bind fun v73 => (m_nearer a v70 v73).bind fun r => some (r, 0)
def nearC (a : Rat) (most : Int) (st : St Ns Ns) : List (Nat × Hp) :=
  [(2, Hp.box 28 (qC a)), (3, Hp.box 2 [D.int .i64 most]), (4, Hp.box 28 (qC 0)), (6, Hp.box 28 (qC (Ns.fin st).1)), (7, Hp.box 28 (qC (Ns.fin st).2.1)), (8, Hp.box 28 (qC (Ns.fin st).2.2.1)), (9, Hp.box 28 (qC (Ns.fin st).2.2.2))]
def nearT : List (Nat × D) := [(2, D.ref 2 0), (3, D.ref 3 0), (4, D.ref 4 0), (6, D.ref 6 0), (7, D.ref 7 0), (8, D.ref 8 0), (9, D.ref 9 0)]
theorem C_Near {a : Rat} {most : Int} {r : Rat} {e : Int} (h : m_Near a most = some (r, e)) : CtrG PP 28 [] [qD a, D.int .i64 most] [] (D.tup [qD r, D.int .i64 e]) := by
  unfold m_Near at h
  refine .ofM Go.Proofs.Tryz.func28 rfl (by kernel_rfl) rfl rfl rfl rfl rfl rfl (fun A w0 L b => ?_)
  show Ok PP _ [(0, qD a), (1, D.int .i64 most)] [] _ _
  refine .reg (.bxA rfl rfl <| .bx1 rfl rfl rfl <| .alL (qC (0)) z_exact_Q ⟨zq1, zq2, zq3, trivial⟩ rfl <| .asg rfl <| .nil) rfl ?_
  refine .sq ?_
  refine .reg (.ldE1 (D.int .i64 most) rfl rfl ly_int64 rfl <| .cm rfl rfl rfl <| .nil) rfl ?_
  by_cases c1 : (decide (most < 1)) = true
  · replace h := ite_pos_some c1 h
    refine .cTb rfl c1 ?_
    refine .reg (.bdQ (qC (0)) [] z_exact_Q pl_exact_Q trivial trivial ⟨zq1, zq2, zq3, trivial⟩ <| .stE (qC (0)) rfl rfl rfl ly_exact_Q rfl rfl rfl <| .asg rfl <| .nil) rfl ?_
    cases h
    exact .retG bodyM_of rfl (.cons (.agg rfl rfl ly_exact_Q rfl) (.cons (.tmp rfl) .nil)) (.refl _) trivial trivial
  replace h := ite_neg_some c1 h
  refine .cFb rfl c1 (.skip (Ok.on ?_))
  obtain ⟨v17, e17, h⟩ := bind_some h
  obtain ⟨v19, e19, h⟩ := bind_some h
  obtain ⟨v20, e20, h⟩ := bind_some h
  refine .sq ?_
  refine .regD hmix (.ldE (qC (a)) rfl rfl ly_exact_Q rfl rfl <| .callG (Q_den e17) ⟨rfl, trivial⟩ trivial trivial <| .ldE1 (D.int .i64 most) rfl rfl ly_int64 rfl <| .callG (Q_int e19) ⟨rfl, trivial⟩ trivial trivial <| .callG (Q_cmp e20) ⟨rfl, rfl, trivial⟩ trivial trivial <| .cm rfl rfl rfl <| .nil) rfl (by kernel_rfl) ?_
  by_cases c2 : (decide (v20 ≤ 0)) = true
  · replace h := ite_pos_some c2 h
    refine .cTb rfl c2 ?_
    refine .reg (.ldE (qC (a)) rfl rfl ly_exact_Q rfl rfl <| .stE (qC (a)) rfl rfl rfl ly_exact_Q rfl rfl rfl <| .asg rfl <| .nil) rfl ?_
    cases h
    exact .retG bodyM_of rfl (.cons (.agg rfl rfl ly_exact_Q rfl) (.cons (.tmp rfl) .nil)) (.refl _) trivial trivial
  replace h := ite_neg_some c2 h
  refine .cFb rfl c2 (.skip (Ok.on ?_))
  obtain ⟨v23, e23, h⟩ := bind_some h
  obtain ⟨v24, e24, h⟩ := bind_some h
  refine .reg (.callG (Q_int e23) ⟨rfl, trivial⟩ trivial trivial <| .callG (Q_int e24) ⟨rfl, trivial⟩ trivial trivial <| .callG (Q_int e24) ⟨rfl, trivial⟩ trivial trivial <| .callG (Q_int e23) ⟨rfl, trivial⟩ trivial trivial <| .alL (qC (0)) z_exact_Q ⟨zq1, zq2, zq3, trivial⟩ rfl <| .alL (qC (0)) z_exact_Q ⟨zq1, zq2, zq3, trivial⟩ rfl <| .alL (qC (0)) z_exact_Q ⟨zq1, zq2, zq3, trivial⟩ rfl <| .alL (qC (0)) z_exact_Q ⟨zq1, zq2, zq3, trivial⟩ rfl <| .stE (qC (v23)) rfl rfl rfl ly_exact_Q rfl rfl rfl <| .stE (qC (v24)) rfl rfl rfl ly_exact_Q rfl rfl rfl <| .stE (qC (v24)) rfl rfl rfl ly_exact_Q rfl rfl rfl <| .stE (qC (v23)) rfl rfl rfl ly_exact_Q rfl rfl rfl <| .nil) rfl ?_
  refine .sq ?_
  refine .reg (.ldE (qC (a)) rfl rfl ly_exact_Q rfl rfl <| .callG (C_expansion a) ⟨rfl, trivial⟩ trivial ⟨rfl, trivial⟩ <| .nil) rfl ?_
  obtain ⟨⟨aE, stE⟩, hl, h⟩ := bind_some h
  refine .block ?_
  refine Ok.rangeF (σ := Ns) (ρ := Ns) (α := Rat) (rb := 1) (tb := 28) (j := 0) (rd := 900) (dd := 901) (lb := qC a) (lb' := qC aE) (C := nearC a most) (dx := qD) (step := nearStep most) (s0 := (v23, v24, v24, v23)) (stE := stE) nearT [2, 3, 4, 6, 7, 8, 9]
    rfl (by kernel_rfl) rfl rfl ?_ ?_ rfl rfl rfl rfl (fun _ => rfl) (fun _ _ _ _ => rfl) (fun _ _ => rfl) (fun _ => rfl) (Nat.le_of_ble_eq_true rfl) (fun l b fn tm hY => C_exp1 hY hl)
    (fun x => [(10, Hp.box 28 (qC x))]) (fun β _ _ _ => [(10, D.ref 10 0), (2, D.ref 2 0), (3, D.ref 3 0), (4, D.ref 4 0), (6, D.ref 6 0), (7, D.ref 7 0), (8, D.ref 8 0), (9, D.ref 9 0)] ++ pins β [900, 901, 2, 3, 4, 6, 7, 8, 9]) ?_ ?_ ?_ ?_
  · exact hasAllT_get ⟨rfl, rfl, rfl, rfl, rfl, rfl, rfl, trivial⟩
  · exact hasAll_get ⟨rfl, rfl, rfl, rfl, rfl, rfl, rfl, trivial⟩
  · exact fun β l b x => ⟨⟨_, rfl, .refl _⟩, ⟨_, rfl, .refl _⟩, ⟨_, rfl, .refl _⟩, ⟨_, rfl, .refl _⟩, ⟨_, rfl, .refl _⟩, ⟨_, rfl, .refl _⟩, ⟨_, rfl, .refl _⟩, ⟨_, rfl, .refl _⟩, ⟨_, rfl, .refl _⟩, trivial⟩
  · -- the left side
    intro l b o s x st hst A w0 L β
    refine OkR.region (fun ⟨_, _, hf⟩ => hf.elim) rfl (.alL (qC (0)) z_exact_Q ⟨zq1, zq2, zq3, trivial⟩ rfl <| .stE (qC (x)) rfl rfl rfl ly_exact_Q rfl rfl rfl <| .nil) rfl (fun a' w' hs => hs.sub (T' := [(10, D.ref 10 0), (2, D.ref 2 0), (3, D.ref 3 0), (4, D.ref 4 0), (6, D.ref 6 0), (7, D.ref 7 0), (8, D.ref 8 0), (9, D.ref 9 0), (1000900, D.pinned 900 (β 900)), (1000901, D.pinned 901 (β 901)), (1000002, D.pinned 2 (β 2)), (1000003, D.pinned 3 (β 3)), (1000004, D.pinned 4 (β 4)), (1000006, D.pinned 6 (β 6)), (1000007, D.pinned 7 (β 7)), (1000008, D.pinned 8 (β 8)), (1000009, D.pinned 9 (β 9))]) (H' := withRec 900 901 o (nearC a most) (.next s) ++ [(10, Hp.box 28 (qC x))]) ⟨⟨_, rfl, .refl _⟩, ⟨_, rfl, .refl _⟩, ⟨_, rfl, .refl _⟩, ⟨_, rfl, .refl _⟩, ⟨_, rfl, .refl _⟩, ⟨_, rfl, .refl _⟩, ⟨_, rfl, .refl _⟩, ⟨_, rfl, .refl _⟩, ⟨_, rfl, .refl _⟩, ⟨_, rfl, .refl _⟩, ⟨_, rfl, .refl _⟩, ⟨_, rfl, .refl _⟩, ⟨_, rfl, .refl _⟩, ⟨_, rfl, .refl _⟩, ⟨_, rfl, .refl _⟩, ⟨_, rfl, .refl _⟩, ⟨_, rfl, .refl _⟩, trivial⟩ ⟨⟨_, rfl, .refl _⟩, ⟨_, rfl, .refl _⟩, ⟨_, rfl, .refl _⟩, ⟨_, rfl, .refl _⟩, ⟨_, rfl, .refl _⟩, ⟨_, rfl, .refl _⟩, ⟨_, rfl, .refl _⟩, ⟨_, rfl, .refl _⟩, ⟨_, rfl, .refl _⟩, ⟨_, rfl, .refl _⟩, trivial⟩ rfl rfl)
  · -- the body
    intro l b o s n st hst A w0 L β
    obtain ⟨p, q, lp, lq⟩ := s
    unfold nearStep at hst
    simp only at hst
    show OkR PP _ [(10, D.ref 10 0), (2, D.ref 2 0), (3, D.ref 3 0), (4, D.ref 4 0), (6, D.ref 6 0), (7, D.ref 7 0), (8, D.ref 8 0), (9, D.ref 9 0), (1000900, D.pinned 900 (β 900)), (1000901, D.pinned 901 (β 901)), (1000002, D.pinned 2 (β 2)), (1000003, D.pinned 3 (β 3)), (1000004, D.pinned 4 (β 4)), (1000006, D.pinned 6 (β 6)), (1000007, D.pinned 7 (β 7)), (1000008, D.pinned 8 (β 8)), (1000009, D.pinned 9 (β 9))] [(900, Hp.obj o), (901, Hp.obj (.deferred (some []))), (2, Hp.box 28 (qC a)), (3, Hp.box 2 [D.int .i64 most]), (4, Hp.box 28 (qC 0)), (6, Hp.box 28 (qC p)), (7, Hp.box 28 (qC q)), (8, Hp.box 28 (qC lp)), (9, Hp.box 28 (qC lq)), (10, Hp.box 28 (qC n))] _ _
    refine .block ?_
    obtain ⟨v32, e32, hst⟩ := bind_some hst
    obtain ⟨v34, e34, hst⟩ := bind_some hst
    obtain ⟨v37, e37, hst⟩ := bind_some hst
    obtain ⟨v38, e38, hst⟩ := bind_some hst
    refine .regD (by rintro ⟨_, _, hf⟩; exact hf) rfl hmix (.ldE (qC (n)) rfl rfl ly_exact_Q rfl rfl <| .ldE (qC (q)) rfl rfl ly_exact_Q rfl rfl <| .callG (Q_mul e32) ⟨rfl, rfl, trivial⟩ trivial trivial <| .ldE (qC (lq)) rfl rfl ly_exact_Q rfl rfl <| .callG (Q_add e34) ⟨rfl, rfl, trivial⟩ trivial trivial <| .alL (qC (0)) z_exact_Q ⟨zq1, zq2, zq3, trivial⟩ rfl <| .stE (qC (v34)) rfl rfl rfl ly_exact_Q rfl rfl rfl <| .nil) rfl (by kernel_rfl) ?_
    refine .sq ?_
    refine .regD (by rintro ⟨_, _, hf⟩; exact hf) rfl hmix (.ldE (qC (v34)) rfl rfl ly_exact_Q rfl rfl <| .ldE1 (D.int .i64 most) rfl rfl ly_int64 rfl <| .callG (Q_int e37) ⟨rfl, trivial⟩ trivial trivial <| .callG (Q_cmp e38) ⟨rfl, rfl, trivial⟩ trivial trivial <| .cm rfl rfl rfl <| .nil) rfl (by kernel_rfl) ?_
    by_cases c3 : (decide (v38 > 0)) = true
    · replace hst := ite_pos_some c3 hst
      refine .cTb rfl c3 ?_
      obtain ⟨v41, e41, hst⟩ := bind_some hst
      obtain ⟨v43, e43, hst⟩ := bind_some hst
      obtain ⟨v45, e45, hst⟩ := bind_some hst
      obtain ⟨v46, e46, hst⟩ := bind_some hst
      obtain ⟨v49, e49, hst⟩ := bind_some hst
      obtain ⟨v51, e51, hst⟩ := bind_some hst
      obtain ⟨v54, e54, hst⟩ := bind_some hst
      obtain ⟨v56, e56, hst⟩ := bind_some hst
      refine .regD (by rintro ⟨_, _, hf⟩; exact hf) rfl hmix (.ldE1 (D.int .i64 most) rfl rfl ly_int64 rfl <| .callG (Q_int e41) ⟨rfl, trivial⟩ trivial trivial <| .ldE (qC (lq)) rfl rfl ly_exact_Q rfl rfl <| .callG (Q_sub e43) ⟨rfl, rfl, trivial⟩ trivial trivial <| .ldE (qC (q)) rfl rfl ly_exact_Q rfl rfl <| .callG (Q_over e45) ⟨rfl, rfl, trivial⟩ trivial trivial <| .callG (Q_floor e46) ⟨rfl, trivial⟩ trivial trivial <| .alL (qC (0)) z_exact_Q ⟨zq1, zq2, zq3, trivial⟩ rfl <| .stE (qC (v46)) rfl rfl rfl ly_exact_Q rfl rfl rfl <| .nil) rfl (by kernel_rfl) ?_
      refine .regD (by rintro ⟨_, _, hf⟩; exact hf) rfl hmix (.ldE (qC (v46)) rfl rfl ly_exact_Q rfl rfl <| .ldE (qC (p)) rfl rfl ly_exact_Q rfl rfl <| .callG (Q_mul e49) ⟨rfl, rfl, trivial⟩ trivial trivial <| .ldE (qC (lp)) rfl rfl ly_exact_Q rfl rfl <| .callG (Q_add e51) ⟨rfl, rfl, trivial⟩ trivial trivial <| .ldE (qC (v46)) rfl rfl ly_exact_Q rfl rfl <| .ldE (qC (q)) rfl rfl ly_exact_Q rfl rfl <| .callG (Q_mul e54) ⟨rfl, rfl, trivial⟩ trivial trivial <| .ldE (qC (lq)) rfl rfl ly_exact_Q rfl rfl <| .callG (Q_add e56) ⟨rfl, rfl, trivial⟩ trivial trivial <| .ldE (qC (p)) rfl rfl ly_exact_Q rfl rfl <| .ldE (qC (q)) rfl rfl ly_exact_Q rfl rfl <| .stE (qC (v51)) rfl rfl rfl ly_exact_Q rfl rfl rfl <| .stE (qC (v56)) rfl rfl rfl ly_exact_Q rfl rfl rfl <| .stE (qC (p)) rfl rfl rfl ly_exact_Q rfl rfl rfl <| .stE (qC (q)) rfl rfl rfl ly_exact_Q rfl rfl rfl <| .nil) rfl (by kernel_rfl) ?_
      have e0 := Option.some.inj hst
      subst e0
      exact .exit (fun a' w' hs => ⟨rfl, ⟨_, rfl⟩, [(1000900, D.pinned 900 (β 900)), (1000901, D.pinned 901 (β 901)), (1000002, D.pinned 2 (β 2)), (1000003, D.pinned 3 (β 3)), (1000004, D.pinned 4 (β 4)), (1000006, D.pinned 6 (β 6)), (1000007, D.pinned 7 (β 7)), (1000008, D.pinned 8 (β 8)), (1000009, D.pinned 9 (β 9))], ⟨⟨_, rfl, .refl _⟩, ⟨_, rfl, .refl _⟩, ⟨_, rfl, .refl _⟩, ⟨_, rfl, .refl _⟩, ⟨_, rfl, .refl _⟩, ⟨_, rfl, .refl _⟩, ⟨_, rfl, .refl _⟩, ⟨_, rfl, .refl _⟩, ⟨_, rfl, .refl _⟩, trivial⟩, hs.sub ⟨⟨_, rfl, .refl _⟩, ⟨_, rfl, .refl _⟩, ⟨_, rfl, .refl _⟩, ⟨_, rfl, .refl _⟩, ⟨_, rfl, .refl _⟩, ⟨_, rfl, .refl _⟩, ⟨_, rfl, .refl _⟩, ⟨_, rfl, .refl _⟩, ⟨_, rfl, .refl _⟩, trivial⟩ ⟨⟨_, rfl, .refl _⟩, ⟨_, rfl, .refl _⟩, ⟨_, rfl, .refl _⟩, ⟨_, rfl, .refl _⟩, ⟨_, rfl, .refl _⟩, ⟨_, rfl, .refl _⟩, ⟨_, rfl, .refl _⟩, ⟨_, rfl, .refl _⟩, ⟨_, rfl, .refl _⟩, trivial⟩ rfl rfl⟩)
    · replace hst := ite_neg_some c3 hst
      refine .cFb rfl c3 (.skip (OkR.on ?_))
      obtain ⟨v61, e61, hst⟩ := bind_some hst
      obtain ⟨v63, e63, hst⟩ := bind_some hst
      have e0 := Option.some.inj hst
      subst e0
      exact .regionD (by rintro ⟨_, _, hf⟩; exact hf) rfl hmix (.ldE (qC (n)) rfl rfl ly_exact_Q rfl rfl <| .ldE (qC (p)) rfl rfl ly_exact_Q rfl rfl <| .callG (Q_mul e61) ⟨rfl, rfl, trivial⟩ trivial trivial <| .ldE (qC (lp)) rfl rfl ly_exact_Q rfl rfl <| .callG (Q_add e63) ⟨rfl, rfl, trivial⟩ trivial trivial <| .ldE (qC (v34)) rfl rfl ly_exact_Q rfl rfl <| .ldE (qC (p)) rfl rfl ly_exact_Q rfl rfl <| .ldE (qC (q)) rfl rfl ly_exact_Q rfl rfl <| .stE (qC (v63)) rfl rfl rfl ly_exact_Q rfl rfl rfl <| .stE (qC (v34)) rfl rfl rfl ly_exact_Q rfl rfl rfl <| .stE (qC (p)) rfl rfl rfl ly_exact_Q rfl rfl rfl <| .stE (qC (q)) rfl rfl rfl ly_exact_Q rfl rfl rfl <| .nil) rfl (by kernel_rfl)
        (fun a' w' hs => ⟨⟨_, rfl⟩, [(1000900, D.pinned 900 (β 900)), (1000901, D.pinned 901 (β 901)), (1000002, D.pinned 2 (β 2)), (1000003, D.pinned 3 (β 3)), (1000004, D.pinned 4 (β 4)), (1000006, D.pinned 6 (β 6)), (1000007, D.pinned 7 (β 7)), (1000008, D.pinned 8 (β 8)), (1000009, D.pinned 9 (β 9))], ⟨⟨_, rfl, .refl _⟩, ⟨_, rfl, .refl _⟩, ⟨_, rfl, .refl _⟩, ⟨_, rfl, .refl _⟩, ⟨_, rfl, .refl _⟩, ⟨_, rfl, .refl _⟩, ⟨_, rfl, .refl _⟩, ⟨_, rfl, .refl _⟩, ⟨_, rfl, .refl _⟩, trivial⟩, hs.sub ⟨⟨_, rfl, .refl _⟩, ⟨_, rfl, .refl _⟩, ⟨_, rfl, .refl _⟩, ⟨_, rfl, .refl _⟩, ⟨_, rfl, .refl _⟩, ⟨_, rfl, .refl _⟩, ⟨_, rfl, .refl _⟩, ⟨_, rfl, .refl _⟩, ⟨_, rfl, .refl _⟩, trivial⟩ ⟨⟨_, rfl, .refl _⟩, ⟨_, rfl, .refl _⟩, ⟨_, rfl, .refl _⟩, ⟨_, rfl, .refl _⟩, ⟨_, rfl, .refl _⟩, ⟨_, rfl, .refl _⟩, ⟨_, rfl, .refl _⟩, ⟨_, rfl, .refl _⟩, ⟨_, rfl, .refl _⟩, trivial⟩ rfl rfl⟩)
  · -- behind the loop
    intro l b o a' w' hd hs
    obtain ⟨v70, e70, h⟩ := bind_some h
    obtain ⟨v73, e73, h⟩ := bind_some h
    obtain ⟨rr, er, h⟩ := bind_some h
    have hs' : Sat _ (tget ((2000001, D.pinned 901 (ptrTo b)) :: nearT)) (hget ((901, Hp.obj (.deferred (some []))) :: nearC a most stE)) _ _ := hs.sub ⟨⟨_, rfl, .refl _⟩, ⟨_, rfl, .refl _⟩, ⟨_, rfl, .refl _⟩, ⟨_, rfl, .refl _⟩, ⟨_, rfl, .refl _⟩, ⟨_, rfl, .refl _⟩, ⟨_, rfl, .refl _⟩, ⟨_, rfl, .refl _⟩, trivial⟩ ⟨⟨_, rfl, .refl _⟩, ⟨_, rfl, .refl _⟩, ⟨_, rfl, .refl _⟩, ⟨_, rfl, .refl _⟩, ⟨_, rfl, .refl _⟩, ⟨_, rfl, .refl _⟩, ⟨_, rfl, .refl _⟩, ⟨_, rfl, .refl _⟩, trivial⟩ rfl rfl
    refine inBlock_end ?_
    show Code.wp PP _ _ a' w'
    refine (show OkD PP [mark b] ⟨A, w0.heap.size, w0, _, L⟩ [(2000001, D.pinned 901 (ptrTo b)), (2, D.ref 2 0), (3, D.ref 3 0), (4, D.ref 4 0), (6, D.ref 6 0), (7, D.ref 7 0), (8, D.ref 8 0), (9, D.ref 9 0)] [(901, Hp.obj (.deferred (some []))), (2, Hp.box 28 (qC a)), (3, Hp.box 2 [D.int .i64 most]), (4, Hp.box 28 (qC 0)), (6, Hp.box 28 (qC (Ns.fin stE).1)), (7, Hp.box 28 (qC (Ns.fin stE).2.1)), (8, Hp.box 28 (qC (Ns.fin stE).2.2.1)), (9, Hp.box 28 (qC (Ns.fin stE).2.2.2))] _ _ from ?_) a' w' hd hs'
    refine OkD.regD hmix (.ldE (qC (a)) rfl rfl ly_exact_Q rfl rfl <| .ldE (qC ((Ns.fin stE).1)) rfl rfl ly_exact_Q rfl rfl <| .ldE (qC ((Ns.fin stE).2.1)) rfl rfl ly_exact_Q rfl rfl <| .callG (Q_over e70) ⟨rfl, rfl, trivial⟩ trivial trivial <| .ldE (qC ((Ns.fin stE).2.2.1)) rfl rfl ly_exact_Q rfl rfl <| .ldE (qC ((Ns.fin stE).2.2.2)) rfl rfl ly_exact_Q rfl rfl <| .callG (Q_over e73) ⟨rfl, rfl, trivial⟩ trivial trivial <| .callG (C_nearer er) ⟨rfl, rfl, rfl, trivial⟩ trivial trivial <| .stE (qC (rr)) rfl rfl rfl ly_exact_Q rfl rfl rfl <| .asg rfl <| .nil) rfl (by kernel_rfl) ?_
    intro a2 w2 hd2 hs2
    cases h
    refine wp_ret ?_
    have hs3 := hs2.sub (T' := [(2000001, D.pinned 901 (ptrTo b)), (4, D.ref 4 0), (5, D.int .i64 0)]) (H' := [(901, Hp.obj (.deferred (some []))), (4, Hp.box 28 (qC r))]) ⟨⟨_, rfl, .refl _⟩, ⟨_, rfl, .refl _⟩, ⟨_, rfl, .refl _⟩, trivial⟩ ⟨⟨_, rfl, .refl _⟩, ⟨_, rfl, .refl _⟩, trivial⟩ rfl rfl
    exact Sat.endM hd2 hs3 (fun ε φ hs => hs.t 2000001 _ rfl) rfl (.cons (.agg rfl rfl ly_exact_Q rfl) (.cons (.tmp rfl) .nil)) (.refl _) trivial trivial
end
end Go.Am
namespace Go.Am
theorem sz_pos (x : Rat) : 1 ≤ sz x := by
  have h := x.den_nz
  have h1 : blen 1 ≤ blen x.den := blen_mono (by omega)
  rw [blen_one] at h1
  exact Nat.le_trans h1 (Nat.le_max_right _ _)
theorem sz_div' (a b : Rat) : sz (a / b) ≤ sz a + sz b := by
  by_cases h : b = 0
  · subst h
    have e : a / 0 = 0 := by rw [Rat.div_def, Rat.inv_zero, Rat.mul_zero]
    have := sz_pos a
    rw [e]
    have e2 : sz (0 : Rat) = 1 := rfl
    omega
  · exact sz_div a b h
theorem absq (a : Rat) : a ≤ (((a.num.natAbs : Nat) : Int) : Rat) ∧ -a ≤ (((a.num.natAbs : Nat) : Int) : Rat) := by
  have hd : (0 : Rat) < (((a.den : Nat) : Int) : Rat) := by
    have := a.den_nz
    exact_mod_cast (by omega : (0 : Int) < ((a.den : Nat) : Int))
  have key : ∀ z : Int, z ≤ ((a.num.natAbs : Nat) : Int) → (z : Rat) / (((a.den : Nat) : Int) : Rat) ≤ (((a.num.natAbs : Nat) : Int) : Rat) := by
    intro z hz
    apply Rat.not_lt.1
    intro h
    rw [Rat.lt_div_iff hd] at h
    have h2 : (((a.num.natAbs : Nat) : Int) * ((a.den : Nat) : Int)) < z := by exact_mod_cast h
    have h3 : ((a.num.natAbs : Nat) : Int) * 1 ≤ ((a.num.natAbs : Nat) : Int) * ((a.den : Nat) : Int) := Int.mul_le_mul_of_nonneg_left (by have := a.den_nz; omega) (by omega)
    omega
  have e := num_den a
  refine ⟨?_, ?_⟩
  · have := key a.num (by omega)
    rw [e] at this; exact this
  · have := key (-a.num) (by omega)
    have e2 : ((-a.num : Int) : Rat) / (((a.den : Nat) : Int) : Rat) = -a := by
      rw [show ((-a.num : Int) : Rat) = -(a.num : Rat) by simp]
      have : -(a.num : Rat) / (((a.den : Nat) : Int) : Rat) = -((a.num : Rat) / (((a.den : Nat) : Int) : Rat)) := by grind
      rw [this, e]
    rw [e2] at this; exact this
theorem near_size {a : Rat} {p q most : Int} (hq : 0 ≤ q) (hm : q ≤ most) (h1 : a * (q : Rat) - (p : Rat) ≤ 1) (h2 : -1 ≤ a * (q : Rat) - (p : Rat)) : p.natAbs ≤ a.num.natAbs * most.toNat + 1 := by
  obtain ⟨a1, a2⟩ := absq a
  have hqr : (0 : Rat) ≤ (q : Rat) := by exact_mod_cast hq
  generalize a.num.natAbs = N at *
  have b1 : a * (q : Rat) ≤ ((N : Int) : Rat) * (q : Rat) := Rat.mul_le_mul_of_nonneg_right a1 hqr
  have b2 : -a * (q : Rat) ≤ ((N : Int) : Rat) * (q : Rat) := Rat.mul_le_mul_of_nonneg_right a2 hqr
  have c1 : (p : Rat) ≤ ((N : Int) : Rat) * (q : Rat) + 1 := by grind
  have c2 : -(p : Rat) ≤ ((N : Int) : Rat) * (q : Rat) + 1 := by grind
  have d1 : p ≤ (N : Int) * q + 1 := by exact_mod_cast c1
  have d2 : -p ≤ (N : Int) * q + 1 := by exact_mod_cast c2
  have d3 : (N : Int) * q ≤ (N : Int) * most := Int.mul_le_mul_of_nonneg_left hm (by omega)
  obtain ⟨m, rfl⟩ := Int.eq_ofNat_of_zero_le (show 0 ≤ most by omega)
  rw [Int.toNat_natCast]
  have d4 : ((N * m : Nat) : Int) = (N : Int) * (m : Int) := Int.natCast_mul N m
  omega
theorem CF_p {a : Rat} {most : Int} {t : Rat} {p q lp lq : Int} (h : CF a most t p q lp lq) (hq1 : 1 ≤ q) : p.natAbs ≤ a.num.natAbs * most.toNat + 1 := by
  have ht : 1 ≤ t := by
    rcases h.one with ⟨e1, _⟩ | ⟨_, e2⟩
    · omega
    · exact e2
  have hqr : (1 : Rat) ≤ (q : Rat) := by exact_mod_cast hq1
  have hlqr : (0 : Rat) ≤ (lq : Rat) := by exact_mod_cast h.hlq
  have hW : 1 ≤ t * (q : Rat) + (lq : Rat) := by
    have := Rat.mul_le_mul_of_nonneg_right ht (show (0 : Rat) ≤ (q : Rat) by grind)
    grind
  have hrel := h.rel
  have f1 : (a * q - p) * (t * q + lq) = -((p * lq - lp * q : Int) : Rat) := by
    have : ((p * lq - lp * q : Int) : Rat) = (p : Rat) * lq - lp * q := by simp
    rw [this]; grind
  have hdet : ((p * lq - lp * q : Int) : Rat) = 1 ∨ ((p * lq - lp * q : Int) : Rat) = -1 := by
    rcases h.det with e | e <;> rw [e] <;> simp
  have hu : ∀ u : Rat, u * (t * q + lq) ≤ 1 → u ≤ 1 := fun u hu => Rat.not_lt.1 (fun hc => by
    have := Rat.mul_le_mul_of_nonneg_left hW (show (0 : Rat) ≤ u by grind)
    grind)
  refine near_size h.hq h.mq (hu _ ?_) ?_
  · rcases hdet with e | e <;> rw [e] at f1 <;> grind
  · have := hu (-(a * q - p)) (by rcases hdet with e | e <;> rw [e] at f1 <;> grind)
    grind
theorem tail_eq (t : Rat) : t - (t.floor : Rat) = mkRat (t.num % (t.den : Int)) t.den := by
  have hd : (((t.den : Nat) : Int) : Rat) ≠ 0 := by
    have := t.den_nz
    exact_mod_cast (by omega : ((t.den : Nat) : Int) ≠ 0)
  rw [Rat.mkRat_eq_div]
  have e1 := num_den t
  have e2 : t.floor = t.num / (t.den : Int) := Rat.floor_def t
  have e3 : ((t.num : Int) : Rat) = (((t.den : Nat) : Int) : Rat) * ((t.num / (t.den : Int) : Int) : Rat) + ((t.num % (t.den : Int) : Int) : Rat) := by
    have := (Int.mul_ediv_add_emod t.num (t.den : Int)).symm
    exact_mod_cast this
  have e4 : ((t.den : Nat) : Rat) = (((t.den : Nat) : Int) : Rat) := rfl
  rw [e2, e4]
  generalize ((t.num : Int) : Rat) = N at *
  generalize (((t.den : Nat) : Int) : Rat) = D at *
  generalize ((t.num / (t.den : Int) : Int) : Rat) = F at *
  generalize ((t.num % (t.den : Int) : Int) : Rat) = R at *
  rw [← e1, e3]
  grind
theorem tail_inv (t : Rat) (h : t - (t.floor : Rat) ≠ 0) : (1 / (t - (t.floor : Rat))).den < t.den ∧ sz (1 / (t - (t.floor : Rat))) ≤ sz t := by
  rw [tail_eq] at h ⊢
  have hd := t.den_nz
  have hr0 : t.num % (t.den : Int) ≠ 0 := fun e => h (by rw [e]; simp)
  have hr1 := Int.emod_nonneg t.num (show (t.den : Int) ≠ 0 by omega)
  have hr2 := Int.emod_lt_of_pos t.num (show 0 < (t.den : Int) by omega)
  obtain ⟨r, hr⟩ := Int.eq_ofNat_of_zero_le hr1
  rw [hr] at h hr0 hr2 ⊢
  have e : 1 / mkRat (r : Int) t.den = mkRat (t.den : Int) r := by
    rw [Rat.mkRat_eq_div, Rat.mkRat_eq_div]
    have h1 : ((r : Nat) : Rat) ≠ 0 := by
      have : ((r : Nat) : Int) ≠ 0 := hr0
      exact_mod_cast this
    have h2 : ((t.den : Nat) : Rat) ≠ 0 := by exact_mod_cast hd
    have e3 : (((r : Nat) : Int) : Rat) = ((r : Nat) : Rat) := rfl
    have e4 : (((t.den : Nat) : Int) : Rat) = ((t.den : Nat) : Rat) := rfl
    rw [e3, e4]; grind
  rw [e]
  have hs := (sz_le.1 (Nat.le_refl (sz t))).2
  refine ⟨Nat.lt_of_le_of_lt (mk_den_le _ _ (by omega)) (by omega), sz_mk _ _ _ (by omega) (by rw [Int.natAbs_natCast]; exact hs) (Nat.le_trans (blen_mono (by omega)) hs)⟩
theorem cmpn_den (x y : Rat) : cmpq ((x.den : Nat) : Rat) ((y.den : Nat) : Rat) = cmpn x.den y.den := by
  unfold cmpq cmpn
  have h1 : (((x.den : Nat) : Rat) < ((y.den : Nat) : Rat)) ↔ x.den < y.den := by exact_mod_cast Iff.rfl
  have h2 : (((y.den : Nat) : Rat) < ((x.den : Nat) : Rat)) ↔ y.den < x.den := by exact_mod_cast Iff.rfl
  simp only [h1, h2]
theorem nearer_is (a x y : Rat) (ha : sz a ≤ 100000000000) (hx : sz x ≤ 110000000000) (hy : sz y ≤ 110000000000) : ∃ r, m_nearer a x y = some r ∧ (r = x ∨ r = y) ∧ ¬ better a x r ∧ ¬ better a y r := by
  have qa : qs' a := Nat.le_trans ha (by omega)
  have qx : qs' x := Nat.le_trans hx (by omega)
  have qy : qs' y := Nat.le_trans hy (by omega)
  have q1 : qs' (rabs (x - a)) := by have := sz_sub x a; unfold qs'; rw [sz_rabs]; omega
  have q2 : qs' (rabs (y - a)) := by have := sz_sub y a; unfold qs'; rw [sz_rabs]; omega
  have q3 : qs' ((x.den : Nat) : Rat) := by have := sz_den x; unfold qs'; omega
  have q4 : qs' ((y.den : Nat) : Rat) := by have := sz_den y; unfold qs'; omega
  have eA : ∀ v : Rat, q_abs v = some (rabs v) := fun v => rfl
  have e1 : q_sub x a = some (x - a) := must_eq ⟨qx, qa⟩
  have e2 : q_sub y a = some (y - a) := must_eq ⟨qy, qa⟩
  have e3 : q_cmp (rabs (x - a)) (rabs (y - a)) = some (cmpq (rabs (x - a)) (rabs (y - a))) := must_eq ⟨q1, q2⟩
  have e4 : q_den x = some (x.den : Rat) := must_eq qx
  have e5 : q_den y = some (y.den : Rat) := must_eq qy
  have e6 : q_cmp ((x.den : Nat) : Rat) ((y.den : Nat) : Rat) = some (cmpn x.den y.den) := by rw [← cmpn_den]; exact must_eq ⟨q3, q4⟩
  have e7 : q_cmp x y = some (cmpq x y) := must_eq ⟨qx, qy⟩
  unfold m_nearer
  simp only [e1, e2, eA, e3, e4, e5, e6, e7, Option.bind_some]
  have t1 : ∀ u v : Rat, (cmpq u v = -1 ∧ u < v) ∨ (cmpq u v = 1 ∧ v < u) ∨ (cmpq u v = 0 ∧ u = v) := by intro u v; unfold cmpq; grind
  have t2 : ∀ u v : Nat, (cmpn u v = -1 ∧ u < v) ∨ (cmpn u v = 1 ∧ v < u) ∨ (cmpn u v = 0 ∧ u = v) := by intro u v; unfold cmpn; grind
  have c1 := t1 (rabs (x - a)) (rabs (y - a))
  have c2 := t2 x.den y.den
  have c3 := t1 x y
  clear t1 t2 e1 e2 eA e3 e4 e5 e6 e7 q1 q2 q3 q4 qa qx qy ha hx hy
  rcases c1 with ⟨h1, k1⟩ | ⟨h1, k1⟩ | ⟨h1, k1⟩
  · rw [h1]; exact ⟨x, rfl, .inl rfl, by unfold better; grind, by unfold better; grind⟩
  · rw [h1]; exact ⟨y, rfl, .inr rfl, by unfold better; grind, by unfold better; grind⟩
  · rw [h1]
    rcases c2 with ⟨h2, k2⟩ | ⟨h2, k2⟩ | ⟨h2, k2⟩
    · rw [h2]; exact ⟨x, rfl, .inl rfl, by unfold better; grind, by unfold better; grind⟩
    · rw [h2]; exact ⟨y, rfl, .inr rfl, by unfold better; grind, by unfold better; grind⟩
    · rw [h2]
      rcases c3 with ⟨h3, k3⟩ | ⟨h3, k3⟩ | ⟨h3, k3⟩
      · rw [h3]; exact ⟨x, rfl, .inl rfl, by unfold better; grind, by unfold better; grind⟩
      · rw [h3]; exact ⟨y, rfl, .inr rfl, by unfold better; grind, by unfold better; grind⟩
      · rw [h3]; exact ⟨y, rfl, .inr rfl, by unfold better; grind, by unfold better; grind⟩
def nI (a : Rat) (most : Int) (x : Rat × Ns) : Prop := ∃ p q lp lq : Int, x.2 = ((p : Rat), (q : Rat), (lp : Rat), (lq : Rat)) ∧ CF a most x.1 p q lp lq ∧ sz x.1 ≤ sz a ∧ sz ((p : Int) : Rat) ≤ sz a + 80 ∧ sz ((lp : Int) : Rat) ≤ sz a + 80
def nQ (a : Rat) (most : Int) (r : Rat × St Ns Ns) : Prop := (Ns.fin r.2).2.1 ≠ 0 ∧ (Ns.fin r.2).2.2.2 ≠ 0 ∧ sz (Ns.fin r.2).1 ≤ 3 * sz a + 10000 ∧ sz (Ns.fin r.2).2.1 ≤ 10000 ∧ sz (Ns.fin r.2).2.2.1 ≤ 3 * sz a + 10000 ∧ sz (Ns.fin r.2).2.2.2 ≤ 10000 ∧
  ∀ z, (z = (Ns.fin r.2).1 / (Ns.fin r.2).2.1 ∨ z = (Ns.fin r.2).2.2.1 / (Ns.fin r.2).2.2.2) → ¬ better a ((Ns.fin r.2).1 / (Ns.fin r.2).2.1) z → ¬ better a ((Ns.fin r.2).2.2.1 / (Ns.fin r.2).2.2.2) z → Best a most.toNat z
theorem sz_small {q most : Int} (h0 : 0 ≤ q) (h : q ≤ most) (hm : i64r most) : sz ((q : Int) : Rat) ≤ 65 := by
  unfold i64r at hm
  exact Nat.le_trans (sz_int q) (Nat.succ_le_succ (blen_small (n := 64) (by omega)))
theorem sz_p {a : Rat} {most : Int} (hm : i64r most) {p : Int} (h : p.natAbs ≤ a.num.natAbs * most.toNat + 1) : sz ((p : Int) : Rat) ≤ sz a + 80 := by
  unfold i64r at hm
  have h1 : blen most.toNat ≤ 64 := blen_small (by omega)
  have h2 := blen_mul_le (sz_le.1 (Nat.le_refl (sz a))).1 h1
  have h3 : blen 1 ≤ sz a + 64 := by rw [blen_one]; omega
  have h4 := Nat.le_trans (blen_mono h) (blen_add h2 h3)
  have := sz_int p
  omega
theorem near_loop (a : Rat) (most : Int) (ha : sz a ≤ 10000000000) (hm : i64r most) (h1 : 1 ≤ most) (hden : most < (a.den : Int)) :
    ∃ r, Loop (expStep (nearStep most)) (a, ((1 : Rat), (0 : Rat), (0 : Rat), (1 : Rat))) = some r ∧ nQ a most r := by
  refine Loop_run (body := expStep (nearStep most)) (a, ((1 : Rat), (0 : Rat), (0 : Rat), (1 : Rat))) (nI a most) (fun x => x.1.den) (nQ a most) ⟨1, 0, 0, 1, by simp, CF_start a most h1, Nat.le_refl _, ?_, ?_⟩ ?_
  · have := sz_int 1
    have e : blen (1 : Int).natAbs = 1 := rfl
    omega
  · have := sz_int 0
    have e : blen (0 : Int).natAbs = 0 := rfl
    omega
  rintro ⟨t, s⟩ ⟨p, q, lp, lq, rfl, hc, ht, hp, hlp⟩
  simp only at hc ht
  have hq := sz_small hc.hq hc.mq hm
  have hlq := sz_small hc.hlq hc.mlq hm
  have hmm := sz_small (show 0 ≤ most by omega) (Int.le_refl most) hm
  have hf := sz_floor t
  have qt : qs' t := Nat.le_trans ht (by omega)
  have e1 : q_floor t = some (t.floor : Rat) := must_eq qt
  have s2 := sz_mul (t.floor : Rat) (q : Rat)
  have e2 : q_mul (t.floor : Rat) (q : Rat) = some ((t.floor : Rat) * (q : Rat)) := must_eq ⟨by unfold qs'; omega, by unfold qs'; omega⟩
  have s3 := sz_add ((t.floor : Rat) * (q : Rat)) (lq : Rat)
  have e3 : q_add ((t.floor : Rat) * (q : Rat)) (lq : Rat) = some ((t.floor : Rat) * (q : Rat) + (lq : Rat)) := must_eq ⟨by unfold qs'; omega, by unfold qs'; omega⟩
  have e4 : q_int most = some (most : Rat) := must_eq hm
  have e5 : q_cmp ((t.floor : Rat) * (q : Rat) + (lq : Rat)) (most : Rat) = some (cmpq ((t.floor : Rat) * (q : Rat) + (lq : Rat)) (most : Rat)) := must_eq ⟨by unfold qs'; omega, by unfold qs'; omega⟩
  have ei : (t.floor : Rat) * (q : Rat) + (lq : Rat) = ((t.floor * q + lq : Int) : Rat) := by simp
  unfold expStep nearStep
  simp only [e1, e2, e3, e4, e5, Option.bind_some]
  by_cases hbig : most < t.floor * q + lq
  · right
    have hcq : cmpq ((t.floor : Rat) * (q : Rat) + (lq : Rat)) (most : Rat) = 1 := by
      have : (most : Rat) < (t.floor : Rat) * (q : Rat) + (lq : Rat) := by rw [ei]; exact_mod_cast hbig
      unfold cmpq; grind
    obtain ⟨k, hk⟩ : ∃ k : Int, k = (((most : Rat) - (lq : Rat)) / (q : Rat)).floor := ⟨_, rfl⟩
    obtain ⟨b1, b2, b3, b4⟩ := CF_break h1 hc hbig hk
    have hq0 : (q : Rat) ≠ 0 := by
      have : (0 : Rat) < (q : Rat) := by exact_mod_cast (by omega : (0 : Int) < q)
      grind
    have u1 := sz_sub (most : Rat) (lq : Rat)
    have u2 := sz_div' ((most : Rat) - (lq : Rat)) (q : Rat)
    have u3 := sz_floor (((most : Rat) - (lq : Rat)) / (q : Rat))
    have f1 : q_sub (most : Rat) (lq : Rat) = some ((most : Rat) - (lq : Rat)) := must_eq ⟨by unfold qs'; omega, by unfold qs'; omega⟩
    have f2 : q_over ((most : Rat) - (lq : Rat)) (q : Rat) = some (((most : Rat) - (lq : Rat)) / (q : Rat)) := must_eq ⟨hq0, by unfold qs'; omega, by unfold qs'; omega⟩
    have f3 : q_floor (((most : Rat) - (lq : Rat)) / (q : Rat)) = some (k : Rat) := by rw [hk]; exact must_eq (by unfold qs'; omega)
    rw [← hk] at u3
    have u4 := sz_mul (k : Rat) (p : Rat)
    have u5 := sz_add ((k : Rat) * (p : Rat)) (lp : Rat)
    have u6 := sz_mul (k : Rat) (q : Rat)
    have u7 := sz_add ((k : Rat) * (q : Rat)) (lq : Rat)
    have f4 : q_mul (k : Rat) (p : Rat) = some ((k : Rat) * (p : Rat)) := must_eq ⟨by unfold qs'; omega, by unfold qs'; omega⟩
    have f5 : q_add ((k : Rat) * (p : Rat)) (lp : Rat) = some ((k : Rat) * (p : Rat) + (lp : Rat)) := must_eq ⟨by unfold qs'; omega, by unfold qs'; omega⟩
    have f6 : q_mul (k : Rat) (q : Rat) = some ((k : Rat) * (q : Rat)) := must_eq ⟨by unfold qs'; omega, by unfold qs'; omega⟩
    have f7 : q_add ((k : Rat) * (q : Rat)) (lq : Rat) = some ((k : Rat) * (q : Rat) + (lq : Rat)) := must_eq ⟨by unfold qs'; omega, by unfold qs'; omega⟩
    refine ⟨(t, .done ((k : Rat) * (p : Rat) + (lp : Rat), (k : Rat) * (q : Rat) + (lq : Rat), (p : Rat), (q : Rat))), ?_, ?_⟩
    · simp only [hcq, f1, f2, f3, f4, f5, f6, f7, Option.bind_some]; rfl
    · have ex : (k : Rat) * (p : Rat) + (lp : Rat) = ((k * p + lp : Int) : Rat) := by simp
      have ed : (k : Rat) * (q : Rat) + (lq : Rat) = ((k * q + lq : Int) : Rat) := by simp
      have hd0 : ((k * q + lq : Int) : Rat) ≠ 0 := by
        have : (0 : Rat) < ((k * q + lq : Int) : Rat) := by exact_mod_cast (by omega : (0 : Int) < k * q + lq)
        grind
      refine ⟨?_, hq0, ?_, ?_, ?_, ?_, ?_⟩ <;> simp only [Ns.fin]
      · rw [ed]; exact hd0
      · omega
      · omega
      · omega
      · omega
      · rw [ex, ed]; exact b4
  · left
    have hcq : (decide (cmpq ((t.floor : Rat) * (q : Rat) + (lq : Rat)) (most : Rat) > 0)) = false := by
      have : (t.floor : Rat) * (q : Rat) + (lq : Rat) ≤ (most : Rat) := by rw [ei]; exact_mod_cast (by omega : t.floor * q + lq ≤ most)
      rw [decide_eq_false_iff_not]
      unfold cmpq; grind
    have hle : t.floor * q + lq ≤ most := by omega
    have hne : t - (t.floor : Rat) ≠ 0 := fun e => by
      have := CF_end hc hle e
      omega
    obtain ⟨d1, d2⟩ := tail_inv t hne
    have hcn := CF_next hc hle hne
    have hq1 : 1 ≤ t.floor * q + lq := by
      rcases hcn.one with ⟨e, _⟩ | ⟨e, _⟩
      · exfalso
        rcases hc.one with ⟨e1, e2⟩ | ⟨e1, e2⟩
        · rw [e1, e2] at e; omega
        · have h3 : 1 ≤ t.floor := Rat.le_floor_iff.2 (by simpa using e2)
          have h4 : 1 * q ≤ t.floor * q := Int.mul_le_mul_of_nonneg_right h3 hc.hq
          have := hc.hlq
          omega
      · exact e
    have hpn := sz_p hm (CF_p hcn hq1)
    have u1 := sz_mul (t.floor : Rat) (p : Rat)
    have u2 := sz_add ((t.floor : Rat) * (p : Rat)) (lp : Rat)
    have u3 := sz_sub t (t.floor : Rat)
    have f1 : q_mul (t.floor : Rat) (p : Rat) = some ((t.floor : Rat) * (p : Rat)) := must_eq ⟨by unfold qs'; omega, by unfold qs'; omega⟩
    have f2 : q_add ((t.floor : Rat) * (p : Rat)) (lp : Rat) = some ((t.floor : Rat) * (p : Rat) + (lp : Rat)) := must_eq ⟨by unfold qs'; omega, by unfold qs'; omega⟩
    have f3 : q_sub t (t.floor : Rat) = some (t - (t.floor : Rat)) := must_eq ⟨qt, by unfold qs'; omega⟩
    have f4 : q_sign (t - (t.floor : Rat)) = some 1 := by
      have := Rat.floor_le t
      show some (sgn _) = _
      unfold sgn; grind
    have f5 : q_int 1 = some 1 := by decide +kernel
    have f6 : q_over 1 (t - (t.floor : Rat)) = some (1 / (t - (t.floor : Rat))) := must_eq ⟨hne, by decide, by unfold qs'; omega⟩
    refine ⟨(1 / (t - (t.floor : Rat)), ((t.floor : Rat) * (p : Rat) + (lp : Rat), (t.floor : Rat) * (q : Rat) + (lq : Rat), (p : Rat), (q : Rat))), ?_, ⟨t.floor * p + lp, t.floor * q + lq, p, q, by simp, hcn, Nat.le_trans d2 ht, hpn, hp⟩, d1⟩
    simp only [hcq, f1, f2, f3, f4, f5, f6, Option.bind_some, Bool.false_eq_true, if_false]
    rfl
theorem den_best (a : Rat) {n : Nat} (h : a.den ≤ n) : Best a n a := ⟨h, fun y _ => by
  by_cases e : y = a
  · subst e; exact better_irr _ _
  · have : a - a = 0 := by grind
    unfold better rabs
    rw [this]
    grind⟩
theorem Near_is (a : Rat) (most : Int) (ha : sz a ≤ 10000000000) (hm : i64r most) : m_Near a most = some (if most < 1 then (0, 3) else (nearR a most.toNat, 0)) := by
  unfold m_Near
  by_cases c1 : most < 1
  · rw [if_pos (decide_eq_true c1), if_pos c1]
  rw [if_neg (by simpa using c1), if_neg c1]
  have qa : qs' a := Nat.le_trans ha (by omega)
  have hmm := sz_small (show 0 ≤ most by omega) (Int.le_refl most) hm
  have sd := sz_den a
  have e1 : q_den a = some (a.den : Rat) := must_eq qa
  have e2 : q_int most = some (most : Rat) := must_eq hm
  have e3 : q_cmp ((a.den : Nat) : Rat) (most : Rat) = some (cmpq ((a.den : Nat) : Rat) (most : Rat)) := must_eq ⟨by unfold qs'; omega, by unfold qs'; omega⟩
  have e4 : q_int 1 = some 1 := by decide +kernel
  have e5 : q_int 0 = some 0 := by decide +kernel
  simp only [e1, e2, e3, e4, e5, Option.bind_some]
  have hcast : ((a.den : Nat) : Rat) = (((a.den : Nat) : Int) : Rat) := rfl
  by_cases c2 : (a.den : Int) ≤ most
  · have : (decide (cmpq ((a.den : Nat) : Rat) (most : Rat) ≤ 0)) = true := by
      have : (((a.den : Nat) : Int) : Rat) ≤ (most : Rat) := by exact_mod_cast c2
      rw [decide_eq_true_eq, hcast]
      unfold cmpq; grind
    rw [if_pos this]
    have := Best_uniq (den_best a (n := most.toNat) (by omega)) (nearR_Best a most.toNat (by omega))
    rw [← this]
  · have : ¬ (decide (cmpq ((a.den : Nat) : Rat) (most : Rat) ≤ 0)) = true := by
      have : (most : Rat) < (((a.den : Nat) : Int) : Rat) := by exact_mod_cast (by omega : most < ((a.den : Nat) : Int))
      rw [decide_eq_true_eq, hcast]
      unfold cmpq; grind
    rw [if_neg this]
    obtain ⟨r, hr, g1, g2, g3, g4, g5, g6, g7⟩ := near_loop a most ha hm (by omega) (by omega)
    rw [hr]
    simp only [Option.bind_some]
    generalize Ns.fin r.2 = s at *
    obtain ⟨p, q, lp, lq⟩ := s
    simp only at g1 g2 g3 g4 g5 g6 g7 ⊢
    have f1 : q_over p q = some (p / q) := must_eq ⟨g1, by unfold qs'; omega, by unfold qs'; omega⟩
    have f2 : q_over lp lq = some (lp / lq) := must_eq ⟨g2, by unfold qs'; omega, by unfold qs'; omega⟩
    have s1 := sz_div' p q
    have s2 := sz_div' lp lq
    obtain ⟨z, hz, k1, k2, k3⟩ := nearer_is a (p / q) (lp / lq) (by omega) (by omega) (by omega)
    rw [f1]
    simp only [Option.bind_some]
    rw [f2]
    simp only [Option.bind_some]
    rw [hz]
    have := Best_uniq (g7 z k1 k2 k3) (nearR_Best a most.toNat (by omega))
    simp only [Option.bind_some]
    rw [this]
def q_near (a : Rat) (most : Int) : Option (Rat × Int) := must (sz a ≤ 10000000000 ∧ i64r most) (some (if most < 1 then (0, 3) else (nearR a most.toNat, 0)))
theorem Q_near {a1 : Rat} {a2 : Int} {r3 : Rat} {r4 : Int} (h : q_near a1 a2 = some (r3, r4)) : CtrG PP 28 [] [qD a1, D.int .i64 a2] [] (D.tup [qD r3, D.int .i64 r4]) := by
  obtain ⟨⟨h1, h2⟩, h⟩ := must_some h
  have e := Near_is a1 a2 h1 h2
  rw [h] at e
  exact C_Near e
end Go.Am
namespace Go.Am
end Go.Am
namespace Go.Am
open Go.RowKit
set_option maxRecDepth 100000
noncomputable section
def m_Turn (a1 : Rat) : Option (Rat × Rat) := (q_mul a1 a1).bind fun v2 => (q_int 1).bind fun v4 => (q_add v4 v2).bind fun v6 => (q_int 1).bind fun v8 => (q_sub v8 v2).bind fun v10 => (q_over v10 v6).bind fun v12 => (q_add a1 a1).bind fun v14 => (q_over v14 v6).bind fun v16 => some (v12, v16)
theorem C_Turn {a1 : Rat} {r18 : Rat} {r19 : Rat} (h : m_Turn a1 = some (r18, r19)) : CtrG PP 61 [] [qD a1] [] (D.agg (qC (r18) ++ qC (r19))) := by
  unfold m_Turn at h
  refine .of Go.Proofs.Tryz.func61 rfl (by kernel_rfl) rfl rfl rfl rfl rfl rfl (fun A w0 L b => ?_)
  show Ok PP _ [(0, qD a1)] [] _ _
  refine .reg (.bxA rfl rfl <| .alL (qC (0) ++ qC (0)) z_exact_Rot ⟨zq1, zq2, zq3, zq1, zq2, zq3, trivial⟩ rfl <| .nil) rfl ?_
  obtain ⟨v2, e3, h⟩ := bind_some h
  refine .reg (.ldE (qC (a1)) rfl rfl ly_exact_Q rfl rfl <| .ldE (qC (a1)) rfl rfl ly_exact_Q rfl rfl <| .callG (Q_mul e3) ⟨rfl, rfl, trivial⟩ trivial trivial <| .alL (qC (0)) z_exact_Q ⟨zq1, zq2, zq3, trivial⟩ rfl <| .stE (qC (v2)) rfl rfl rfl ly_exact_Q rfl rfl rfl <| .nil) rfl ?_
  obtain ⟨v4, e5, h⟩ := bind_some h
  obtain ⟨v6, e7, h⟩ := bind_some h
  refine .regD hmix (.callG (Q_int e5) ⟨rfl, trivial⟩ trivial trivial <| .ldE (qC (v2)) rfl rfl ly_exact_Q rfl rfl <| .callG (Q_add e7) ⟨rfl, rfl, trivial⟩ trivial trivial <| .alL (qC (0)) z_exact_Q ⟨zq1, zq2, zq3, trivial⟩ rfl <| .stE (qC (v6)) rfl rfl rfl ly_exact_Q rfl rfl rfl <| .nil) rfl (by kernel_rfl) ?_
  obtain ⟨v8, e9, h⟩ := bind_some h
  obtain ⟨v10, e11, h⟩ := bind_some h
  obtain ⟨v12, e13, h⟩ := bind_some h
  obtain ⟨v14, e15, h⟩ := bind_some h
  obtain ⟨v16, e17, h⟩ := bind_some h
  refine .regD hmix (.callG (Q_int e9) ⟨rfl, trivial⟩ trivial trivial <| .ldE (qC (v2)) rfl rfl ly_exact_Q rfl rfl <| .callG (Q_sub e11) ⟨rfl, rfl, trivial⟩ trivial trivial <| .ldE (qC (v6)) rfl rfl ly_exact_Q rfl rfl <| .callG (Q_over e13) ⟨rfl, rfl, trivial⟩ trivial trivial <| .ldE (qC (a1)) rfl rfl ly_exact_Q rfl rfl <| .ldE (qC (a1)) rfl rfl ly_exact_Q rfl rfl <| .callG (Q_add e15) ⟨rfl, rfl, trivial⟩ trivial trivial <| .ldE (qC (v6)) rfl rfl ly_exact_Q rfl rfl <| .callG (Q_over e17) ⟨rfl, rfl, trivial⟩ trivial trivial <| .bdQ (qC (v12) ++ qC (v16)) [(0, _, qD v12, qC (v12)), (3, _, qD v16, qC (v16))] z_exact_Rot pl_exact_Rot ⟨rfl, rfl, .agg _, rfl, rfl, rfl, .agg _, rfl, trivial⟩ ⟨rfl, rfl, trivial⟩ ⟨.refl _, .refl _, .refl _, .refl _, .refl _, .refl _, trivial⟩ <| .stE (qC (v12) ++ qC (v16)) rfl rfl rfl ly_exact_Rot rfl rfl rfl <| .nil) rfl (by kernel_rfl) ?_
  cases h
  refine .retG (fun _ _ hb => hb) rfl (.cons (.agg rfl rfl ly_exact_Rot rfl) .nil) (.refl _) trivial trivial
def m_dot_l1 (a1 : List Rat) (a2 : List Rat) (v5 : Int) (v6 : Rat) : Option (St (Int × Rat) Rat) := (if (decide (v5 < (a1.length : Int))) = true then (ix a1 v5).bind fun v12 => (ix a2 v5).bind fun v14 => (q_mul v12 v14).bind fun v16 => (q_add v6 v16).bind fun v18 => some (St.next ((IntKind.i64.wrap (v5 + 1)), v18)) else some (St.done v6))
def m_dot (a1 : List Rat) (a2 : List Rat) : Option Rat := ((Loop (fun (s : Int × Rat) => m_dot_l1 a1 a2 s.1 s.2) (0, 0)).bind fun v20 => some (v20)).bind fun v21 => some v21
theorem C_dot {a1 : List Rat} {a2 : List Rat} {r22 : Rat} (h : m_dot a1 a2 = some r22) : CtrG PP 196 [] [slcE Enc.rat a1, slcE Enc.rat a2] [] (qD r22) := by
  unfold m_dot at h
  refine .of Go.Proofs.Tryz.func196 rfl (by kernel_rfl) rfl rfl rfl rfl rfl rfl (fun A w0 L b => ?_)
  show Ok PP _ [(0, slcE Enc.rat a1), (1, slcE Enc.rat a2)] [] _ _
  refine .reg (.alL (qC (0)) z_exact_Q ⟨zq1, zq2, zq3, trivial⟩ rfl <| .nil) rfl ?_
  refine .reg (.alL (qC (0)) z_exact_Q ⟨zq1, zq2, zq3, trivial⟩ rfl <| .nil) rfl ?_
  obtain ⟨v21, hp4, h⟩ := bind_some h
  refine .cutX (fun i => v21 = i) (fun (i : Rat) => [(4, D.ref 4 0), (5, D.ref 5 0)]) (fun (i : Rat) => [(4, Hp.box 28 (qC (0))), (5, Hp.box 28 (qC (i)))]) ?_ ?_
  · have ho1 := h
    clear h
    have h := hp4
    clear hp4
    refine .reg (.mv rfl <| .lnE rfl is_Lexact_Q <| .mv rfl <| .nil) rfl ?_
    obtain ⟨o7, hl8, h⟩ := bind_some h
    have ho2 := h
    clear h
    refine .block (.loopL (fun (s : Int × Rat) => [(1, slcE Enc.rat a2), (4, D.ref 4 0), (5, D.ref 5 0), (8, slcE Enc.rat a1), (9, D.int .i64 (a1.length : Int)), (10, D.int .i64 s.1)]) (fun (s : Int × Rat) => [(4, Hp.box 28 (qC (0))), (5, Hp.box 28 (qC (s.2)))]) hl8 ⟨⟨_, rfl, .refl _⟩, ⟨_, rfl, .refl _⟩, ⟨_, rfl, .refl _⟩, ⟨_, rfl, .refl _⟩, ⟨_, rfl, .refl _⟩, ⟨_, rfl, .refl _⟩, trivial⟩ ⟨⟨_, rfl, .refl _⟩, ⟨_, rfl, .refl _⟩, trivial⟩ rfl rfl ?_)
    rintro ⟨v5, v6⟩ st9 hb10
    have h : m_dot_l1 a1 a2 v5 v6 = some st9 := hb10
    clear hb10
    unfold m_dot_l1 at h
    show Ok PP _ [(1, slcE Enc.rat a2), (4, D.ref 4 0), (5, D.ref 5 0), (8, slcE Enc.rat a1), (9, D.int .i64 (a1.length : Int)), (10, D.int .i64 v5)] [(4, Hp.box 28 (qC (0))), (5, Hp.box 28 (qC (v6)))] _ _
    refine .reg (.cm rfl rfl rfl <| .nil) rfl ?_
    refine .sq ?_
    by_cases c11 : (decide (v5 < (a1.length : Int))) = true
    · replace h := ite_pos_some c11 h
      refine .cTb rfl c11 ?_
      refine .skip (Ok.on ?_)
      refine .sq ?_
      refine .block ?_
      obtain ⟨v12, e13, h⟩ := bind_some h
      refine .reg (.mv rfl <| .ixE rfl rfl se_Lexact_Q (ix_some e13).1 (ix_some e13).2 <| .lpE (l := qC (v12)) rfl ly_exact_Q rfl <| .alL (qC (0)) z_exact_Q ⟨zq1, zq2, zq3, trivial⟩ rfl <| .asg rfl <| .stE (qC (v12)) rfl rfl rfl ly_exact_Q rfl rfl rfl <| .nil) rfl ?_
      obtain ⟨v14, e15, h⟩ := bind_some h
      obtain ⟨v16, e17, h⟩ := bind_some h
      obtain ⟨v18, e19, h⟩ := bind_some h
      refine .regionD hmix (.ldE (qC (v6)) rfl rfl ly_exact_Q rfl rfl <| .ldE (qC (v12)) rfl rfl ly_exact_Q rfl rfl <| .mv rfl <| .mv rfl <| .ixE rfl rfl se_Lexact_Q (ix_some e15).1 (ix_some e15).2 <| .lpE (l := qC (v14)) rfl ly_exact_Q rfl <| .callG (Q_mul e17) ⟨rfl, rfl, trivial⟩ trivial trivial <| .callG (Q_add e19) ⟨rfl, rfl, trivial⟩ trivial trivial <| .stE (qC (v18)) rfl rfl rfl ly_exact_Q rfl rfl rfl <| .nil) rfl (by kernel_rfl) (Ok.on ?_)
      refine .region (.ar rfl rfl rfl <| .mv rfl <| .nil) rfl (fun _ _ hs => ⟨((IntKind.i64.wrap (v5 + 1)), v18), (Option.some.inj h).symm, hs.sub ⟨⟨_, rfl, .refl _⟩, ⟨_, rfl, .refl _⟩, ⟨_, rfl, .refl _⟩, ⟨_, rfl, .refl _⟩, ⟨_, rfl, .refl _⟩, ⟨_, rfl, .refl _⟩, trivial⟩ ⟨⟨_, rfl, .refl _⟩, ⟨_, rfl, .refl _⟩, trivial⟩ rfl rfl⟩)
    · replace h := ite_neg_some c11 h
      refine .cFb rfl c11 ?_
      refine .exit (fun a w hs => ⟨_, (Option.some.inj h).symm, fun e => by subst e; have h := ho2; exact blk_exit (⟨v6, (Option.some.inj h).symm, hs.sub ⟨⟨_, rfl, .refl _⟩, ⟨_, rfl, .refl _⟩, trivial⟩ ⟨⟨_, rfl, .refl _⟩, ⟨_, rfl, .refl _⟩, trivial⟩ rfl rfl⟩)⟩)
  · rintro _ rfl
    show Ok PP _ [(4, D.ref 4 0), (5, D.ref 5 0)] [(4, Hp.box 28 (qC (0))), (5, Hp.box 28 (qC (v21)))] _ _
    refine .reg (.ldE (qC (v21)) rfl rfl ly_exact_Q rfl rfl <| .stE (qC (v21)) rfl rfl rfl ly_exact_Q rfl rfl rfl <| .nil) rfl ?_
    cases h
    refine .retG (fun _ _ hb => hb) rfl (.cons (.agg rfl rfl ly_exact_Q rfl) .nil) (.refl _) trivial trivial
end
end Go.Am
namespace Go.Am
open Go.RowKit
set_option maxRecDepth 100000
noncomputable section
def m_r_DotRow_l1 (a1 : List Rat) (a2 : List Rat) (v5 : Int) (v6 : Rat) : Option (St (Int × Rat) Rat) := (if (decide (v5 < (a1.length : Int))) = true then (ix a1 v5).bind fun v12 => (ix a2 v5).bind fun v14 => (q_mul v12 v14).bind fun v16 => (q_add v6 v16).bind fun v18 => some (St.next ((IntKind.i64.wrap (v5 + 1)), v18)) else some (St.done v6))
def m_r_DotRow (a1 : List Rat) (a2 : List Rat) : Option Rat := ((Loop (fun (s : Int × Rat) => m_r_DotRow_l1 a1 a2 s.1 s.2) (0, 0)).bind fun v20 => some (v20)).bind fun v21 => some v21
theorem C_r_DotRow {a1 : List Rat} {a2 : List Rat} {r22 : Rat} (h : m_r_DotRow a1 a2 = some r22) : CtrG PP 198 [] [slcE Enc.rq a1, slcE Enc.rq a2] [] (rqD r22) := by
  unfold m_r_DotRow at h
  refine .of Go.Proofs.Tryz.func198 rfl (by kernel_rfl) rfl rfl rfl rfl rfl rfl (fun A w0 L b => ?_)
  show Ok PP _ [(0, slcE Enc.rq a1), (1, slcE Enc.rq a2)] [] _ _
  refine .reg (.alL (rqC (0)) z_ambleref01_Q ⟨zr1, zr2, .refl _, zr4, trivial⟩ rfl <| .nil) rfl ?_
  refine .reg (.alL (rqC (0)) z_ambleref01_Q ⟨zr1, zr2, .refl _, zr4, trivial⟩ rfl <| .nil) rfl ?_
  obtain ⟨v21, hp4, h⟩ := bind_some h
  refine .cutX (fun i => v21 = i) (fun (i : Rat) => [(4, D.ref 4 0), (5, D.ref 5 0)]) (fun (i : Rat) => [(4, Hp.box 37 (rqC (0))), (5, Hp.box 37 (rqC (i)))]) ?_ ?_
  · have ho1 := h
    clear h
    have h := hp4
    clear hp4
    refine .reg (.asg rfl <| .nil) rfl ?_
    obtain ⟨o7, hl8, h⟩ := bind_some h
    have ho2 := h
    clear h
    refine .block (.loopL (fun (s : Int × Rat) => [(0, slcE Enc.rq a1), (1, slcE Enc.rq a2), (4, D.ref 4 0), (5, D.ref 5 0), (6, D.int .i64 s.1)]) (fun (s : Int × Rat) => [(4, Hp.box 37 (rqC (0))), (5, Hp.box 37 (rqC (s.2)))]) hl8 ⟨⟨_, rfl, .refl _⟩, ⟨_, rfl, .refl _⟩, ⟨_, rfl, .refl _⟩, ⟨_, rfl, .refl _⟩, ⟨_, rfl, .refl _⟩, trivial⟩ ⟨⟨_, rfl, .refl _⟩, ⟨_, rfl, .refl _⟩, trivial⟩ rfl rfl ?_)
    rintro ⟨v5, v6⟩ st9 hb10
    have h : m_r_DotRow_l1 a1 a2 v5 v6 = some st9 := hb10
    clear hb10
    unfold m_r_DotRow_l1 at h
    show Ok PP _ [(0, slcE Enc.rq a1), (1, slcE Enc.rq a2), (4, D.ref 4 0), (5, D.ref 5 0), (6, D.int .i64 v5)] [(4, Hp.box 37 (rqC (0))), (5, Hp.box 37 (rqC (v6)))] _ _
    refine .sq ?_
    refine .reg (.mv rfl <| .mv rfl <| .lnE rfl is_Lambleref01_Q <| .cm rfl rfl rfl <| .nil) rfl ?_
    by_cases c11 : (decide (v5 < (a1.length : Int))) = true
    · replace h := ite_pos_some c11 h
      refine .cTb rfl c11 ?_
      refine .skip (Ok.on ?_)
      refine .sq ?_
      refine .block ?_
      obtain ⟨v12, e13, h⟩ := bind_some h
      obtain ⟨v14, e15, h⟩ := bind_some h
      obtain ⟨v16, e17, h⟩ := bind_some h
      obtain ⟨v18, e19, h⟩ := bind_some h
      refine .regionD hmix (.ldE (rqC (v6)) rfl rfl ly_ambleref01_Q rfl rfl <| .mv rfl <| .mv rfl <| .ixE rfl rfl se_Lambleref01_Q (ix_some e13).1 (ix_some e13).2 <| .lpE (l := rqC (v12)) rfl ly_ambleref01_Q rfl <| .mv rfl <| .mv rfl <| .ixE rfl rfl se_Lambleref01_Q (ix_some e15).1 (ix_some e15).2 <| .lpE (l := rqC (v14)) rfl ly_ambleref01_Q rfl <| .callG (R_mul e17) ⟨rfl, rfl, trivial⟩ trivial trivial <| .callG (R_add e19) ⟨rfl, rfl, trivial⟩ trivial trivial <| .stE (rqC (v18)) rfl rfl rfl ly_ambleref01_Q rfl rfl rfl <| .nil) rfl (by kernel_rfl) (Ok.on ?_)
      refine .region (.mv rfl <| .ar rfl rfl rfl <| .asg rfl <| .nil) rfl (fun _ _ hs => ⟨((IntKind.i64.wrap (v5 + 1)), v18), (Option.some.inj h).symm, hs.sub ⟨⟨_, rfl, .refl _⟩, ⟨_, rfl, .refl _⟩, ⟨_, rfl, .refl _⟩, ⟨_, rfl, .refl _⟩, ⟨_, rfl, .refl _⟩, trivial⟩ ⟨⟨_, rfl, .refl _⟩, ⟨_, rfl, .refl _⟩, trivial⟩ rfl rfl⟩)
    · replace h := ite_neg_some c11 h
      refine .cFb rfl c11 ?_
      refine .exit (fun a w hs => ⟨_, (Option.some.inj h).symm, fun e => by subst e; have h := ho2; exact blk_exit (⟨v6, (Option.some.inj h).symm, hs.sub ⟨⟨_, rfl, .refl _⟩, ⟨_, rfl, .refl _⟩, trivial⟩ ⟨⟨_, rfl, .refl _⟩, ⟨_, rfl, .refl _⟩, trivial⟩ rfl rfl⟩)⟩)
  · rintro _ rfl
    show Ok PP _ [(4, D.ref 4 0), (5, D.ref 5 0)] [(4, Hp.box 37 (rqC (0))), (5, Hp.box 37 (rqC (v21)))] _ _
    refine .reg (.ldE (rqC (v21)) rfl rfl ly_ambleref01_Q rfl rfl <| .stE (rqC (v21)) rfl rfl rfl ly_ambleref01_Q rfl rfl rfl <| .nil) rfl ?_
    cases h
    refine .retG (fun _ _ hb => hb) rfl (.cons (.agg rfl rfl ly_ambleref01_Q rfl) .nil) (.refl _) trivial trivial
end
end Go.Am
namespace Go.Am
open Go.RowKit
set_option maxRecDepth 100000
noncomputable section
def m_l_Both_l1 (a3 : Int) (v8 : Rat) (v11 : Rat) (v15 : Int) (v16 : Rat) (v17 : Rat) : Option (St (Int × Rat × Rat) (Rat × Rat)) := (if (decide (v15 < (Int.tmod a3 4))) = true then (q_mul v16 v8).bind fun v23 => (q_mul v17 v11).bind fun v25 => some (St.next ((IntKind.u8.wrap (v15 + 1)), v23, v25)) else some (St.done (v16, v17)))
def m_l_Both (a1 : Int) (a2 : Int) (a3 : Int) : Option (Rat × Rat) := ((if (a2 == 0) = true then some (1) else some (a2))).bind fun v7 => (q_of a1 v7).bind fun (v8, v9) => (r_of a1 v7).bind fun v11 => ((Loop (fun (s : Int × Rat × Rat) => m_l_Both_l1 a3 v8 v11 s.1 s.2.1 s.2.2) (0, v8, v11)).bind fun (v27, v28) => some ((v27, v28))).bind fun (v29, v30) => some (v29, v30)
theorem C_l_Both {a1 : Int} {a2 : Int} {a3 : Int} {r31 : Rat} {r32 : Rat} (h : m_l_Both a1 a2 a3 = some (r31, r32)) : CtrG PP 27 [] [D.agg ([D.int .i64 a1, D.int .i64 a2, D.int .u8 a3])] [] (D.tup [qD r31, rqD r32]) := by
  unfold m_l_Both at h
  refine .of Go.Proofs.Tryz.func27 rfl (by kernel_rfl) rfl rfl rfl rfl rfl rfl (fun A w0 L b => ?_)
  show Ok PP _ [(0, D.agg ([D.int .i64 a1, D.int .i64 a2, D.int .u8 a3]))] [] _ _
  refine .reg (.bxA rfl rfl <| .alL (qC (0)) z_exact_Q ⟨zq1, zq2, zq3, trivial⟩ rfl <| .alL (rqC (0)) z_ambleref01_Q ⟨zr1, zr2, .refl _, zr4, trivial⟩ rfl <| .nil) rfl ?_
  obtain ⟨v7, hp5, h⟩ := bind_some h
  refine .cutX (fun i => v7 = i) (fun (i : Int) => [(1, D.ref 1 0), (2, D.ref 2 0), (3, D.ref 3 0)]) (fun (i : Int) => [(1, Hp.box 43 ([D.int .i64 a1, D.int .i64 i, D.int .u8 a3])), (2, Hp.box 28 (qC (0))), (3, Hp.box 37 (rqC (0)))]) ?_ ?_
  · have ho1 := h
    clear h
    have h := hp5
    clear hp5
    refine .reg (.fa rfl f_amblelaw01_Num_1 <| .ldE1 (D.int .i64 a2) rfl rfl ly_int64 rfl <| .cm rfl rfl rfl <| .nil) rfl ?_
    by_cases c6 : (a2 == 0) = true
    · replace h := ite_pos_some c6 h
      refine .cTb rfl c6 ?_
      refine .region (.fa rfl f_amblelaw01_Num_1 <| .stE1 ([D.int .i64 a1, D.int .i64 1, D.int .u8 a3]) rfl rfl rfl ly_int64 rfl rfl rfl <| .nil) rfl (fun _ _ hs => ⟨1, (Option.some.inj h).symm, hs.sub ⟨⟨_, rfl, .refl _⟩, ⟨_, rfl, .refl _⟩, ⟨_, rfl, .refl _⟩, trivial⟩ ⟨⟨_, rfl, .refl _⟩, ⟨_, rfl, .refl _⟩, ⟨_, rfl, .refl _⟩, trivial⟩ rfl rfl⟩)
    · replace h := ite_neg_some c6 h
      refine .cFb rfl c6 ?_
      refine .skip (fun _ _ hs => ⟨a2, (Option.some.inj h).symm, hs.sub ⟨⟨_, rfl, .refl _⟩, ⟨_, rfl, .refl _⟩, ⟨_, rfl, .refl _⟩, trivial⟩ ⟨⟨_, rfl, .refl _⟩, ⟨_, rfl, .refl _⟩, ⟨_, rfl, .refl _⟩, trivial⟩ rfl rfl⟩)
  · rintro _ rfl
    show Ok PP _ [(1, D.ref 1 0), (2, D.ref 2 0), (3, D.ref 3 0)] [(1, Hp.box 43 ([D.int .i64 a1, D.int .i64 v7, D.int .u8 a3])), (2, Hp.box 28 (qC (0))), (3, Hp.box 37 (rqC (0)))] _ _
    obtain ⟨⟨v8, v9⟩, e10, h⟩ := bind_some h
    refine .reg (.fa rfl f_amblelaw01_Num_0 <| .ldE1 (D.int .i64 a1) rfl rfl ly_int64 rfl <| .fa rfl f_amblelaw01_Num_1 <| .ldE1 (D.int .i64 v7) rfl rfl ly_int64 rfl <| .callG (Q_of e10) ⟨rfl, rfl, trivial⟩ trivial trivial <| .mv rfl <| .ext rfl rfl <| .ext rfl rfl <| .alL (qC (0)) z_exact_Q ⟨zq1, zq2, zq3, trivial⟩ rfl <| .stE (qC (v8)) rfl rfl rfl ly_exact_Q rfl rfl rfl <| .asg rfl <| .nil) rfl ?_
    obtain ⟨v11, e12, h⟩ := bind_some h
    refine .reg (.fa rfl f_amblelaw01_Num_0 <| .ldE1 (D.int .i64 a1) rfl rfl ly_int64 rfl <| .fa rfl f_amblelaw01_Num_1 <| .ldE1 (D.int .i64 v7) rfl rfl ly_int64 rfl <| .callG (R_of e12) ⟨rfl, rfl, trivial⟩ trivial trivial <| .alL (rqC (0)) z_ambleref01_Q ⟨zr1, zr2, .refl _, zr4, trivial⟩ rfl <| .stE (rqC (v11)) rfl rfl rfl ly_ambleref01_Q rfl rfl rfl <| .nil) rfl ?_
    refine .regD hmix (.ldE (qC (v8)) rfl rfl ly_exact_Q rfl rfl <| .ldE (rqC (v11)) rfl rfl ly_ambleref01_Q rfl rfl <| .alL (qC (0)) z_exact_Q ⟨zq1, zq2, zq3, trivial⟩ rfl <| .alL (rqC (0)) z_ambleref01_Q ⟨zr1, zr2, .refl _, zr4, trivial⟩ rfl <| .stE (qC (v8)) rfl rfl rfl ly_exact_Q rfl rfl rfl <| .stE (rqC (v11)) rfl rfl rfl ly_ambleref01_Q rfl rfl rfl <| .nil) rfl (by kernel_rfl) ?_
    obtain ⟨o13, hp14, h⟩ := bind_some h
    refine .cutX (fun i => o13 = i) (fun (i : Rat × Rat) => [(2, D.ref 2 0), (3, D.ref 3 0), (7, D.ref 7 0), (8, D.ref 8 0)]) (fun (i : Rat × Rat) => [(2, Hp.box 28 (qC (0))), (3, Hp.box 37 (rqC (0))), (7, Hp.box 28 (qC (i.1))), (8, Hp.box 37 (rqC (i.2)))]) ?_ ?_
    · have ho1 := h
      clear h
      have h := hp14
      clear hp14
      refine .reg (.asg rfl <| .nil) rfl ?_
      obtain ⟨o18, hl19, h⟩ := bind_some h
      have ho2 := h
      clear h
      refine .block (.loopL (fun (s : Int × Rat × Rat) => [(1, D.ref 1 0), (2, D.ref 2 0), (3, D.ref 3 0), (4, D.ref 4 0), (6, D.ref 6 0), (7, D.ref 7 0), (8, D.ref 8 0), (9, D.int .u8 s.1)]) (fun (s : Int × Rat × Rat) => [(1, Hp.box 43 ([D.int .i64 a1, D.int .i64 v7, D.int .u8 a3])), (2, Hp.box 28 (qC (0))), (3, Hp.box 37 (rqC (0))), (4, Hp.box 28 (qC (v8))), (6, Hp.box 37 (rqC (v11))), (7, Hp.box 28 (qC (s.2.1))), (8, Hp.box 37 (rqC (s.2.2)))]) hl19 ⟨⟨_, rfl, .refl _⟩, ⟨_, rfl, .refl _⟩, ⟨_, rfl, .refl _⟩, ⟨_, rfl, .refl _⟩, ⟨_, rfl, .refl _⟩, ⟨_, rfl, .refl _⟩, ⟨_, rfl, .refl _⟩, ⟨_, rfl, .refl _⟩, trivial⟩ ⟨⟨_, rfl, .refl _⟩, ⟨_, rfl, .refl _⟩, ⟨_, rfl, .refl _⟩, ⟨_, rfl, .refl _⟩, ⟨_, rfl, .refl _⟩, ⟨_, rfl, .refl _⟩, ⟨_, rfl, .refl _⟩, trivial⟩ rfl rfl ?_)
      rintro ⟨v15, v16, v17⟩ st20 hb21
      have h : m_l_Both_l1 a3 v8 v11 v15 v16 v17 = some st20 := hb21
      clear hb21
      unfold m_l_Both_l1 at h
      show Ok PP _ [(1, D.ref 1 0), (2, D.ref 2 0), (3, D.ref 3 0), (4, D.ref 4 0), (6, D.ref 6 0), (7, D.ref 7 0), (8, D.ref 8 0), (9, D.int .u8 v15)] [(1, Hp.box 43 ([D.int .i64 a1, D.int .i64 v7, D.int .u8 a3])), (2, Hp.box 28 (qC (0))), (3, Hp.box 37 (rqC (0))), (4, Hp.box 28 (qC (v8))), (6, Hp.box 37 (rqC (v11))), (7, Hp.box 28 (qC (v16))), (8, Hp.box 37 (rqC (v17)))] _ _
      refine .sq ?_
      refine .reg (.mv rfl <| .fa rfl f_amblelaw01_Num_2 <| .ldE1 (D.int .u8 a3) rfl rfl ly_uint8 rfl <| .ar rfl rfl (irem (by decide)) <| .cm rfl rfl rfl <| .nil) rfl ?_
      by_cases c22 : (decide (v15 < (Int.tmod a3 4))) = true
      · replace h := ite_pos_some c22 h
        refine .cTb rfl c22 ?_
        refine .skip (Ok.on ?_)
        refine .sq ?_
        refine .block ?_
        obtain ⟨v23, e24, h⟩ := bind_some h
        refine .reg (.ldE (qC (v16)) rfl rfl ly_exact_Q rfl rfl <| .ldE (qC (v8)) rfl rfl ly_exact_Q rfl rfl <| .callG (Q_mul e24) ⟨rfl, rfl, trivial⟩ trivial trivial <| .stE (qC (v23)) rfl rfl rfl ly_exact_Q rfl rfl rfl <| .nil) rfl ?_
        obtain ⟨v25, e26, h⟩ := bind_some h
        refine .region (.ldE (rqC (v17)) rfl rfl ly_ambleref01_Q rfl rfl <| .ldE (rqC (v11)) rfl rfl ly_ambleref01_Q rfl rfl <| .callG (R_mul e26) ⟨rfl, rfl, trivial⟩ trivial trivial <| .stE (rqC (v25)) rfl rfl rfl ly_ambleref01_Q rfl rfl rfl <| .nil) rfl (Ok.on ?_)
        refine .region (.mv rfl <| .ar rfl rfl rfl <| .asg rfl <| .nil) rfl (fun _ _ hs => ⟨((IntKind.u8.wrap (v15 + 1)), v23, v25), (Option.some.inj h).symm, hs.sub ⟨⟨_, rfl, .refl _⟩, ⟨_, rfl, .refl _⟩, ⟨_, rfl, .refl _⟩, ⟨_, rfl, .refl _⟩, ⟨_, rfl, .refl _⟩, ⟨_, rfl, .refl _⟩, ⟨_, rfl, .refl _⟩, ⟨_, rfl, .refl _⟩, trivial⟩ ⟨⟨_, rfl, .refl _⟩, ⟨_, rfl, .refl _⟩, ⟨_, rfl, .refl _⟩, ⟨_, rfl, .refl _⟩, ⟨_, rfl, .refl _⟩, ⟨_, rfl, .refl _⟩, ⟨_, rfl, .refl _⟩, trivial⟩ rfl rfl⟩)
      · replace h := ite_neg_some c22 h
        refine .cFb rfl c22 ?_
        refine .exit (fun a w hs => ⟨_, (Option.some.inj h).symm, fun e => by subst e; have h := ho2; exact blk_exit (⟨(v16, v17), (Option.some.inj h).symm, hs.sub ⟨⟨_, rfl, .refl _⟩, ⟨_, rfl, .refl _⟩, ⟨_, rfl, .refl _⟩, ⟨_, rfl, .refl _⟩, trivial⟩ ⟨⟨_, rfl, .refl _⟩, ⟨_, rfl, .refl _⟩, ⟨_, rfl, .refl _⟩, ⟨_, rfl, .refl _⟩, trivial⟩ rfl rfl⟩)⟩)
    · rintro ⟨v29, v30⟩ rfl
      show Ok PP _ [(2, D.ref 2 0), (3, D.ref 3 0), (7, D.ref 7 0), (8, D.ref 8 0)] [(2, Hp.box 28 (qC (0))), (3, Hp.box 37 (rqC (0))), (7, Hp.box 28 (qC (v29))), (8, Hp.box 37 (rqC (v30)))] _ _
      refine .regD hmix (.ldE (qC (v29)) rfl rfl ly_exact_Q rfl rfl <| .ldE (rqC (v30)) rfl rfl ly_ambleref01_Q rfl rfl <| .stE (qC (v29)) rfl rfl rfl ly_exact_Q rfl rfl rfl <| .stE (rqC (v30)) rfl rfl rfl ly_ambleref01_Q rfl rfl rfl <| .nil) rfl (by kernel_rfl) ?_
      cases h
      refine .retG (fun _ _ hb => hb) rfl (.cons (.agg rfl rfl ly_exact_Q rfl) (.cons (.agg rfl rfl ly_ambleref01_Q rfl) .nil)) (.refl _) trivial trivial
def m_l_Same (a1 : Rat) (a2 : Rat) : Option Bool := (q_text a1).bind fun v3 => (q_text a2).bind fun v5 => some (v3 == v5)
theorem C_l_Same {a1 : Rat} {a2 : Rat} {r7 : Bool} (h : m_l_Same a1 a2 = some r7) : CtrG PP 26 [] [qD a1, rqD a2] [] (D.bool r7) := by
  unfold m_l_Same at h
  refine .of Go.Proofs.Tryz.func26 rfl (by kernel_rfl) rfl rfl rfl rfl rfl rfl (fun A w0 L b => ?_)
  show Ok PP _ [(0, qD a1), (1, rqD a2)] [] _ _
  refine .reg (.bxA rfl rfl <| .bxA rfl rfl <| .asg rfl <| .nil) rfl ?_
  obtain ⟨v3, e4, h⟩ := bind_some h
  obtain ⟨v5, e6, h⟩ := bind_some h
  refine .regD hmix (.ldE (qC (a1)) rfl rfl ly_exact_Q rfl rfl <| .callG (Q_text e4) ⟨rfl, trivial⟩ trivial trivial <| .ldE (rqC (a2)) rfl rfl ly_ambleref01_Q rfl rfl <| .callG (R_text e6) ⟨rfl, trivial⟩ trivial trivial <| .teq rfl rfl <| .asg rfl <| .nil) rfl (by kernel_rfl) ?_
  cases h
  refine .retG (fun _ _ hb => hb) rfl (.cons (.tmp rfl) .nil) (.refl _) trivial trivial
def m_l_List_l1 (a1 : List (Int × Int × Int)) (v4 : Int) (v5 : List Rat) (v6 : List Rat) : Option (St (Int × (List Rat) × (List Rat)) ((List Rat) × (List Rat))) := (if (decide (v4 < (a1.length : Int))) = true then (ix a1 v4).bind fun (v12, v13, v14) => (m_l_Both v12 v13 v14).bind fun (v16, v17) => must ((v5.length + ([v16]).length) * 56 ≤ 140737488355328 ∧ v5.length + ([v16]).length ≤ 9223372036854775807) (must ((v6.length + ([v17]).length) * 64 ≤ 140737488355328 ∧ v6.length + ([v17]).length ≤ 9223372036854775807) (some (St.next ((IntKind.i64.wrap (v4 + 1)), (v5 ++ [v16]), (v6 ++ [v17]))))) else some (St.done (v5, v6)))
def m_l_List (a1 : List (Int × Int × Int)) : Option ((List Rat) × (List Rat)) := ((Loop (fun (s : Int × (List Rat) × (List Rat)) => m_l_List_l1 a1 s.1 s.2.1 s.2.2) (0, [], [])).bind fun (v21, v22) => some ((v21, v22))).bind fun (v23, v24) => some (v23, v24)
theorem C_l_List {a1 : List (Int × Int × Int)} {r25 : List Rat} {r26 : List Rat} (h : m_l_List a1 = some (r25, r26)) : CtrG PP 53 [] [slcE (Enc.prod (Enc.int .i64) (Enc.prod (Enc.int .i64) (Enc.int .u8))) a1] [] (D.tup [slcE Enc.rat r25, slcE Enc.rq r26]) := by
  unfold m_l_List at h
  refine .of Go.Proofs.Tryz.func53 rfl (by kernel_rfl) rfl rfl rfl rfl rfl rfl (fun A w0 L b => ?_)
  show Ok PP _ [(0, slcE (Enc.prod (Enc.int .i64) (Enc.prod (Enc.int .i64) (Enc.int .u8))) a1)] [] _ _
  refine .reg (.asg rfl <| .asg rfl <| .nil) rfl ?_
  refine .reg (.asg rfl <| .nil) rfl ?_
  refine .reg (.asg rfl <| .nil) rfl ?_
  obtain ⟨o2, hp3, h⟩ := bind_some h
  refine .cutX (fun i => o2 = i) (fun (i : (List Rat) × (List Rat)) => [(4, D.own 2000004), (5, D.own 2000005)]) (fun (i : (List Rat) × (List Rat)) => [(2000004, rowE Enc.rat 28 i.1), (2000005, rowE Enc.rq 37 i.2)]) ?_ ?_
  · have ho1 := h
    clear h
    have h := hp3
    clear hp3
    refine .reg (.asg rfl <| .nil) rfl ?_
    refine .nilE Enc.rat 4 2000004 28 rfl rfl ?_
    refine .nilE Enc.rq 5 2000005 37 rfl rfl ?_
    obtain ⟨o7, hl8, h⟩ := bind_some h
    have ho2 := h
    clear h
    refine .block (.loopL (fun (s : Int × (List Rat) × (List Rat)) => [(0, slcE (Enc.prod (Enc.int .i64) (Enc.prod (Enc.int .i64) (Enc.int .u8))) a1), (4, D.own 2000004), (5, D.own 2000005), (6, D.int .i64 s.1)]) (fun (s : Int × (List Rat) × (List Rat)) => [(2000004, rowE Enc.rat 28 s.2.1), (2000005, rowE Enc.rq 37 s.2.2)]) hl8 ⟨⟨_, rfl, .refl _⟩, ⟨_, rfl, .refl _⟩, ⟨_, rfl, .refl _⟩, ⟨_, rfl, .refl _⟩, trivial⟩ ⟨⟨_, rfl, .refl _⟩, ⟨_, rfl, .refl _⟩, trivial⟩ rfl rfl ?_)
    rintro ⟨v4, v5, v6⟩ st9 hb10
    have h : m_l_List_l1 a1 v4 v5 v6 = some st9 := hb10
    clear hb10
    unfold m_l_List_l1 at h
    show Ok PP _ [(0, slcE (Enc.prod (Enc.int .i64) (Enc.prod (Enc.int .i64) (Enc.int .u8))) a1), (4, D.own 2000004), (5, D.own 2000005), (6, D.int .i64 v4)] [(2000004, rowE Enc.rat 28 v5), (2000005, rowE Enc.rq 37 v6)] _ _
    refine .sq ?_
    refine .reg (.mv rfl <| .mv rfl <| .lnE rfl is_Lamblelaw01_Num <| .cm rfl rfl rfl <| .nil) rfl ?_
    by_cases c11 : (decide (v4 < (a1.length : Int))) = true
    · replace h := ite_pos_some c11 h
      refine .cTb rfl c11 ?_
      refine .skip (Ok.on ?_)
      refine .sq ?_
      refine .block ?_
      obtain ⟨⟨v12, v13, v14⟩, e15, h⟩ := bind_some h
      obtain ⟨⟨v16, v17⟩, e18, h⟩ := bind_some h
      refine .reg (.mv rfl <| .mv rfl <| .ixE rfl rfl se_Lamblelaw01_Num (ix_some e15).1 (ix_some e15).2 <| .lpE (l := [D.int .i64 v12, D.int .i64 v13, D.int .u8 v14]) rfl ly_amblelaw01_Num rfl <| .callG (C_l_Both e18) ⟨rfl, trivial⟩ trivial trivial <| .mv rfl <| .ext rfl rfl <| .ext rfl rfl <| .alL (qC (0)) z_exact_Q ⟨zq1, zq2, zq3, trivial⟩ rfl <| .alL (rqC (0)) z_ambleref01_Q ⟨zr1, zr2, .refl _, zr4, trivial⟩ rfl <| .stE (qC (v16)) rfl rfl rfl ly_exact_Q rfl rfl rfl <| .stE (rqC (v17)) rfl rfl rfl ly_ambleref01_Q rfl rfl rfl <| .nil) rfl ?_
      refine .sl 4 rfl rfl rfl ?_
      obtain ⟨k19, h⟩ := must_some h
      refine .reg (.mv rfl <| .ldE (qC (v16)) rfl rfl ly_exact_Q rfl rfl <| .blQ (e := Enc.rat) [v16] [(0, _, qD v16, qC (v16))] mk_Lexact_Q rfl rfl rfl ⟨rfl, rfl, .agg _, rfl, trivial⟩ ⟨rfl, trivial⟩ rfl rfl <| .apD (ys := [v16]) rfl .sl rfl (.refl _) rfl mk_Lexact_Q rfl k19.1 k19.2 rfl <| .asg rfl <| .nil) rfl ?_
      refine .sl 5 rfl rfl rfl ?_
      obtain ⟨k20, h⟩ := must_some h
      refine .region (.mv rfl <| .ldE (rqC (v17)) rfl rfl ly_ambleref01_Q rfl rfl <| .blQ (e := Enc.rq) [v17] [(0, _, rqD v17, rqC (v17))] mk_Lambleref01_Q rfl rfl rfl ⟨rfl, rfl, .agg _, rfl, trivial⟩ ⟨rfl, trivial⟩ rfl rfl <| .apD (ys := [v17]) rfl .sl rfl (.refl _) rfl mk_Lambleref01_Q rfl k20.1 k20.2 rfl <| .asg rfl <| .nil) rfl (Ok.on ?_)
      refine .region (.mv rfl <| .ar rfl rfl rfl <| .asg rfl <| .nil) rfl (fun _ _ hs => ⟨((IntKind.i64.wrap (v4 + 1)), (v5 ++ [v16]), (v6 ++ [v17])), (Option.some.inj h).symm, hs.subR (fun r => match r with | 2000004 => 26 | 2000005 => 30 | r => r) ⟨⟨_, rfl, .refl rfl⟩, ⟨_, rfl, .own (r := 2000004)⟩, ⟨_, rfl, .own (r := 2000005)⟩, ⟨_, rfl, .refl rfl⟩, trivial⟩ ⟨⟨_, rfl, .refl rfl⟩, ⟨_, rfl, .refl rfl⟩, trivial⟩ rfl rfl rfl⟩)
    · replace h := ite_neg_some c11 h
      refine .cFb rfl c11 ?_
      refine .exit (fun a w hs => ⟨_, (Option.some.inj h).symm, fun e => by subst e; have h := ho2; exact blk_exit (⟨(v5, v6), (Option.some.inj h).symm, hs.sub ⟨⟨_, rfl, .refl _⟩, ⟨_, rfl, .refl _⟩, trivial⟩ ⟨⟨_, rfl, .refl _⟩, ⟨_, rfl, .refl _⟩, trivial⟩ rfl rfl⟩)⟩)
  · rintro ⟨v23, v24⟩ rfl
    show Ok PP _ [(4, D.own 2000004), (5, D.own 2000005)] [(2000004, rowE Enc.rat 28 v23), (2000005, rowE Enc.rq 37 v24)] _ _
    refine .sl 4 rfl rfl rfl ?_
    refine .sl 5 rfl rfl rfl ?_
    refine .reg (.mv rfl <| .mv rfl <| .asg rfl <| .asg rfl <| .nil) rfl ?_
    refine .leT 2 (.own 2000004) rfl .sl ?_
    refine .giveE 2 rfl rfl rfl ?_
    refine .leT 3 (.own 2000005) rfl .sl ?_
    refine .giveE 3 rfl rfl rfl ?_
    cases h
    refine .retG (fun _ _ hb => hb) rfl (.cons (.tmp rfl) (.cons (.tmp rfl) .nil)) (.refl _) trivial trivial
def m_l_Alike_l1 (a1 : List Rat) (a2 : List Rat) (v6 : Int) : Option (St Int (Ex Unit Bool)) := (if (decide (v6 < (a1.length : Int))) = true then (ix a1 v6).bind fun v12 => (ix a2 v6).bind fun v14 => (m_l_Same v12 v14).bind fun v16 => (if (!v16) = true then some (St.done (Ex.ret false)) else some (St.next (IntKind.i64.wrap (v6 + 1)))) else some (St.done (Ex.brk ())))
def m_l_Alike (a1 : List Rat) (a2 : List Rat) : Option Bool := (if ((a1.length : Int) != (a2.length : Int)) = true then some false else ((Loop (fun (s : Int) => m_l_Alike_l1 a1 a2 s) 0).bind fun o7 => (match o7 with | Ex.brk () => some (Ex.brk ()) | Ex.ret r19 => some (Ex.ret r19))).bind fun o4 => (match o4 with | Ex.brk () => some true | Ex.ret r20 => some r20))
theorem C_l_Alike {a1 : List Rat} {a2 : List Rat} {r21 : Bool} (h : m_l_Alike a1 a2 = some r21) : CtrG PP 112 [] [slcE Enc.rat a1, slcE Enc.rq a2] [] (D.bool r21) := by
  unfold m_l_Alike at h
  refine .of Go.Proofs.Tryz.func112 rfl (by kernel_rfl) rfl rfl rfl rfl rfl rfl (fun A w0 L b => ?_)
  show Ok PP _ [(0, slcE Enc.rat a1), (1, slcE Enc.rq a2)] [] _ _
  refine .reg (.asg rfl <| .nil) rfl ?_
  refine .sq ?_
  refine .reg (.mv rfl <| .lnE rfl is_Lexact_Q <| .mv rfl <| .lnE rfl is_Lambleref01_Q <| .cm rfl rfl rfl <| .nil) rfl ?_
  by_cases c3 : ((a1.length : Int) != (a2.length : Int)) = true
  · replace h := ite_pos_some c3 h
    refine .cTb rfl c3 ?_
    refine .reg (.asg rfl <| .nil) rfl ?_
    cases h
    refine .retG (fun _ _ hb => hb) rfl (.cons (.tmp rfl) .nil) (.refl _) trivial trivial
  · replace h := ite_neg_some c3 h
    refine .cFb rfl c3 ?_
    refine .skip (Ok.on ?_)
    obtain ⟨o4, hp5, h⟩ := bind_some h
    refine .cutX (fun i => o4 = Ex.brk i) (fun (i : Unit) => []) (fun (i : Unit) => []) ?_ ?_
    · have ho1 := h
      clear h
      have h := hp5
      clear hp5
      refine .reg (.asg rfl <| .nil) rfl ?_
      obtain ⟨o7, hl8, h⟩ := bind_some h
      have ho2 := h
      clear h
      refine .block (.loopL (fun (s : Int) => [(0, slcE Enc.rat a1), (1, slcE Enc.rq a2), (5, D.int .i64 s)]) (fun (s : Int) => []) hl8 ⟨⟨_, rfl, .refl _⟩, ⟨_, rfl, .refl _⟩, ⟨_, rfl, .refl _⟩, trivial⟩ trivial rfl rfl ?_)
      rintro v6 st9 hb10
      have h : m_l_Alike_l1 a1 a2 v6 = some st9 := hb10
      clear hb10
      unfold m_l_Alike_l1 at h
      show Ok PP _ [(0, slcE Enc.rat a1), (1, slcE Enc.rq a2), (5, D.int .i64 v6)] [] _ _
      refine .sq ?_
      refine .reg (.mv rfl <| .mv rfl <| .lnE rfl is_Lexact_Q <| .cm rfl rfl rfl <| .nil) rfl ?_
      by_cases c11 : (decide (v6 < (a1.length : Int))) = true
      · replace h := ite_pos_some c11 h
        refine .cTb rfl c11 ?_
        refine .skip (Ok.on ?_)
        refine .sq ?_
        refine .block ?_
        obtain ⟨v12, e13, h⟩ := bind_some h
        obtain ⟨v14, e15, h⟩ := bind_some h
        obtain ⟨v16, e17, h⟩ := bind_some h
        refine .regD hmix (.mv rfl <| .mv rfl <| .ixE rfl rfl se_Lexact_Q (ix_some e13).1 (ix_some e13).2 <| .lpE (l := qC (v12)) rfl ly_exact_Q rfl <| .mv rfl <| .mv rfl <| .ixE rfl rfl se_Lambleref01_Q (ix_some e15).1 (ix_some e15).2 <| .lpE (l := rqC (v14)) rfl ly_ambleref01_Q rfl <| .callG (C_l_Same e17) ⟨rfl, rfl, trivial⟩ trivial trivial <| .not rfl <| .nil) rfl (by kernel_rfl) ?_
        by_cases c18 : (!v16) = true
        · replace h := ite_pos_some c18 h
          refine .cTb rfl c18 ?_
          refine .reg (.asg rfl <| .nil) rfl ?_
          refine .retG (Hi := []) (Ho := []) (b := b) (fn := Go.Proofs.Tryz.f112) (d := D.bool false) (fun _ _ hb => by exact ⟨_, (Option.some.inj h).symm, fun e => by subst e; have h := ho2; cases h; have h := ho1; cases h; exact hb⟩) rfl (.cons (.tmp rfl) .nil) (.refl _) trivial trivial
        · replace h := ite_neg_some c18 h
          refine .cFb rfl c18 ?_
          refine .skip (Ok.on ?_)
          refine .region (.mv rfl <| .ar rfl rfl rfl <| .asg rfl <| .nil) rfl (fun _ _ hs => ⟨(IntKind.i64.wrap (v6 + 1)), (Option.some.inj h).symm, hs.sub ⟨⟨_, rfl, .refl _⟩, ⟨_, rfl, .refl _⟩, ⟨_, rfl, .refl _⟩, trivial⟩ trivial rfl rfl⟩)
      · replace h := ite_neg_some c11 h
        refine .cFb rfl c11 ?_
        refine .exit (fun a w hs => ⟨_, (Option.some.inj h).symm, fun e => by subst e; have h := ho2; exact blk_exit (⟨(), (Option.some.inj h).symm, hs.sub trivial trivial rfl rfl⟩)⟩)
    · rintro ⟨⟩ rfl
      show Ok PP _ [] [] _ _
      refine .reg (.asg rfl <| .nil) rfl ?_
      cases h
      refine .retG (fun _ _ hb => hb) rfl (.cons (.tmp rfl) .nil) (.refl _) trivial trivial
def m_l_num (a1 : List UInt8) : Option Rat := (q_parse a1).bind fun (v2, v3) => some v2
theorem C_l_num {a1 : List UInt8} {r5 : Rat} (h : m_l_num a1 = some r5) : CtrG PP 100 [] [strD a1] [] (qD r5) := by
  unfold m_l_num at h
  refine .of Go.Proofs.Tryz.func100 rfl (by kernel_rfl) rfl rfl rfl rfl rfl rfl (fun A w0 L b => ?_)
  show Ok PP _ [(0, strD a1)] [] _ _
  refine .reg (.alL (qC (0)) z_exact_Q ⟨zq1, zq2, zq3, trivial⟩ rfl <| .nil) rfl ?_
  obtain ⟨⟨v2, v3⟩, e4, h⟩ := bind_some h
  refine .reg (.mv rfl <| .callG (Q_parse e4) ⟨rfl, trivial⟩ trivial trivial <| .mv rfl <| .ext rfl rfl <| .ext rfl rfl <| .alL (qC (0)) z_exact_Q ⟨zq1, zq2, zq3, trivial⟩ rfl <| .stE (qC (v2)) rfl rfl rfl ly_exact_Q rfl rfl rfl <| .asg rfl <| .nil) rfl ?_
  refine .reg (.ldE (qC (v2)) rfl rfl ly_exact_Q rfl rfl <| .stE (qC (v2)) rfl rfl rfl ly_exact_Q rfl rfl rfl <| .nil) rfl ?_
  cases h
  refine .retG (fun _ _ hb => hb) rfl (.cons (.agg rfl rfl ly_exact_Q rfl) .nil) (.refl _) trivial trivial
def m_l_is (a1 : Rat) (a2 : List UInt8) : Option Bool := (q_text a1).bind fun v3 => some (v3 == a2)
theorem C_l_is {a1 : Rat} {a2 : List UInt8} {r5 : Bool} (h : m_l_is a1 a2 = some r5) : CtrG PP 141 [] [qD a1, strD a2] [] (D.bool r5) := by
  unfold m_l_is at h
  refine .of Go.Proofs.Tryz.func141 rfl (by kernel_rfl) rfl rfl rfl rfl rfl rfl (fun A w0 L b => ?_)
  show Ok PP _ [(0, qD a1), (1, strD a2)] [] _ _
  refine .reg (.bxA rfl rfl <| .asg rfl <| .nil) rfl ?_
  obtain ⟨v3, e4, h⟩ := bind_some h
  refine .reg (.ldE (qC (a1)) rfl rfl ly_exact_Q rfl rfl <| .callG (Q_text e4) ⟨rfl, trivial⟩ trivial trivial <| .mv rfl <| .teq rfl rfl <| .asg rfl <| .nil) rfl ?_
  cases h
  refine .retG (fun _ _ hb => hb) rfl (.cons (.tmp rfl) .nil) (.refl _) trivial trivial
def m_l_awake  : Option Bool := (q_parse ([45, 49, 46, 50, 53, 48] : List UInt8)).bind fun (v1, v2) => (q_parse ([54, 47, 52] : List UInt8)).bind fun (v4, v5) => (m_l_num ([51, 53, 53, 47, 49, 49, 51] : List UInt8)).bind fun v7 => (q_near v7 7).bind fun (v9, v10) => (q_int 2).bind fun v12 => (q_root v12 3).bind fun (v14, v15) => (m_l_num ([49, 47, 50] : List UInt8)).bind fun v17 => (m_Turn v17).bind fun (v19, v20) => (if (v2 == 0) = true then (if (v5 == 0) = true then (if (v10 == 0) = true then (if (v15 == 0) = true then (m_l_is v1 ([45, 53, 47, 52] : List UInt8)).bind fun v26 => (if v26 = true then (m_l_is v4 ([51, 47, 50] : List UInt8)).bind fun v29 => (if v29 = true then (m_l_is v9 ([50, 50, 47, 55] : List UInt8)).bind fun v32 => (if v32 = true then (m_l_is v14 ([49, 49, 47, 56] : List UInt8)).bind fun v35 => (if v35 = true then (m_l_is v19 ([51, 47, 53] : List UInt8)).bind fun v38 => (if v38 = true then (m_l_is v20 ([52, 47, 53] : List UInt8)).bind fun v41 => (if v41 = true then (q_add v1 v4).bind fun v44 => (m_l_is v44 ([49, 47, 52] : List UInt8)).bind fun v46 => (if v46 = true then (q_mul v1 v4).bind fun v49 => (m_l_is v49 ([45, 49, 53, 47, 56] : List UInt8)).bind fun v51 => some v51 else some false) else some false) else some false) else some false) else some false) else some false) else some false) else some false) else some false) else some false) else some false)
theorem C_l_awake {r53 : Bool} (h : m_l_awake = some r53) : CtrG PP 22 [] [] [] (D.bool r53) := by
  unfold m_l_awake at h
  refine .of Go.Proofs.Tryz.func22 rfl (by kernel_rfl) rfl rfl rfl rfl rfl rfl (fun A w0 L b => ?_)
  show Ok PP _ [] [] _ _
  refine .reg (.asg rfl <| .nil) rfl ?_
  obtain ⟨⟨v1, v2⟩, e3, h⟩ := bind_some h
  refine .reg (.callG (Q_parse e3) ⟨rfl, trivial⟩ trivial trivial <| .mv rfl <| .ext rfl rfl <| .ext rfl rfl <| .alL (qC (0)) z_exact_Q ⟨zq1, zq2, zq3, trivial⟩ rfl <| .stE (qC (v1)) rfl rfl rfl ly_exact_Q rfl rfl rfl <| .asg rfl <| .nil) rfl ?_
  obtain ⟨⟨v4, v5⟩, e6, h⟩ := bind_some h
  refine .reg (.callG (Q_parse e6) ⟨rfl, trivial⟩ trivial trivial <| .mv rfl <| .ext rfl rfl <| .ext rfl rfl <| .alL (qC (0)) z_exact_Q ⟨zq1, zq2, zq3, trivial⟩ rfl <| .stE (qC (v4)) rfl rfl rfl ly_exact_Q rfl rfl rfl <| .asg rfl <| .nil) rfl ?_
  obtain ⟨v7, e8, h⟩ := bind_some h
  obtain ⟨⟨v9, v10⟩, e11, h⟩ := bind_some h
  refine .reg (.callG (C_l_num e8) ⟨rfl, trivial⟩ trivial trivial <| .callG (Q_near e11) ⟨rfl, rfl, trivial⟩ trivial trivial <| .mv rfl <| .ext rfl rfl <| .ext rfl rfl <| .alL (qC (0)) z_exact_Q ⟨zq1, zq2, zq3, trivial⟩ rfl <| .stE (qC (v9)) rfl rfl rfl ly_exact_Q rfl rfl rfl <| .asg rfl <| .nil) rfl ?_
  obtain ⟨v12, e13, h⟩ := bind_some h
  obtain ⟨⟨v14, v15⟩, e16, h⟩ := bind_some h
  refine .reg (.callG (Q_int e13) ⟨rfl, trivial⟩ trivial trivial <| .callG (Q_root e16) ⟨rfl, rfl, trivial⟩ trivial trivial <| .mv rfl <| .ext rfl rfl <| .ext rfl rfl <| .alL (qC (0)) z_exact_Q ⟨zq1, zq2, zq3, trivial⟩ rfl <| .stE (qC (v14)) rfl rfl rfl ly_exact_Q rfl rfl rfl <| .asg rfl <| .nil) rfl ?_
  obtain ⟨v17, e18, h⟩ := bind_some h
  obtain ⟨⟨v19, v20⟩, e21, h⟩ := bind_some h
  refine .reg (.callG (C_l_num e18) ⟨rfl, trivial⟩ trivial trivial <| .callG (C_Turn e21) ⟨rfl, trivial⟩ trivial trivial <| .alL (qC (0) ++ qC (0)) z_exact_Rot ⟨zq1, zq2, zq3, zq1, zq2, zq3, trivial⟩ rfl <| .stE (qC (v19) ++ qC (v20)) rfl rfl rfl ly_exact_Rot rfl rfl rfl <| .nil) rfl ?_
  by_cases c22 : (v2 == 0) = true
  · replace h := ite_pos_some c22 h
    by_cases c23 : (v5 == 0) = true
    · replace h := ite_pos_some c23 h
      by_cases c24 : (v10 == 0) = true
      · replace h := ite_pos_some c24 h
        by_cases c25 : (v15 == 0) = true
        · replace h := ite_pos_some c25 h
          obtain ⟨v26, e27, h⟩ := bind_some h
          by_cases c28 : v26 = true
          · replace h := ite_pos_some c28 h
            obtain ⟨v29, e30, h⟩ := bind_some h
            by_cases c31 : v29 = true
            · replace h := ite_pos_some c31 h
              obtain ⟨v32, e33, h⟩ := bind_some h
              by_cases c34 : v32 = true
              · replace h := ite_pos_some c34 h
                obtain ⟨v35, e36, h⟩ := bind_some h
                by_cases c37 : v35 = true
                · replace h := ite_pos_some c37 h
                  obtain ⟨v38, e39, h⟩ := bind_some h
                  by_cases c40 : v38 = true
                  · replace h := ite_pos_some c40 h
                    obtain ⟨v41, e42, h⟩ := bind_some h
                    by_cases c43 : v41 = true
                    · replace h := ite_pos_some c43 h
                      obtain ⟨v44, e45, h⟩ := bind_some h
                      obtain ⟨v46, e47, h⟩ := bind_some h
                      by_cases c48 : v46 = true
                      · replace h := ite_pos_some c48 h
                        obtain ⟨v49, e50, h⟩ := bind_some h
                        obtain ⟨v51, e52, h⟩ := bind_some h
                        refine .reg (.mv rfl <| .cm rfl rfl rfl <| .mv rfl <| .gYt rfl rfl rfl c22 <| .mv rfl <| .gYt rfl rfl rfl c22 <| .cm rfl rfl rfl <| .pkTb rfl c22 rfl <| .mv rfl <| .gYt rfl rfl rfl c23 <| .mv rfl <| .gYt rfl rfl rfl c23 <| .cm rfl rfl rfl <| .pkTb rfl c23 rfl <| .mv rfl <| .gYt rfl rfl rfl c24 <| .mv rfl <| .gYt rfl rfl rfl c24 <| .cm rfl rfl rfl <| .pkTb rfl c24 rfl <| .mv rfl <| .gYt rfl rfl rfl c25 <| .ldE (qC (v1)) rfl rfl ly_exact_Q rfl rfl <| .gYt rfl rfl rfl c25 <| .callG (C_l_is e27) ⟨rfl, rfl, trivial⟩ trivial trivial <| .pkTb rfl c25 rfl <| .mv rfl <| .gYt rfl rfl rfl c28 <| .ldE (qC (v4)) rfl rfl ly_exact_Q rfl rfl <| .gYt rfl rfl rfl c28 <| .callG (C_l_is e30) ⟨rfl, rfl, trivial⟩ trivial trivial <| .pkTb rfl c28 rfl <| .mv rfl <| .gYt rfl rfl rfl c31 <| .ldE (qC (v9)) rfl rfl ly_exact_Q rfl rfl <| .gYt rfl rfl rfl c31 <| .callG (C_l_is e33) ⟨rfl, rfl, trivial⟩ trivial trivial <| .pkTb rfl c31 rfl <| .mv rfl <| .gYt rfl rfl rfl c34 <| .ldE (qC (v14)) rfl rfl ly_exact_Q rfl rfl <| .gYt rfl rfl rfl c34 <| .callG (C_l_is e36) ⟨rfl, rfl, trivial⟩ trivial trivial <| .pkTb rfl c34 rfl <| .mv rfl <| .gYt rfl rfl rfl c37 <| .fa rfl f_exact_Rot_0 <| .gYt rfl rfl rfl c37 <| .ldE (qC (v19)) rfl rfl ly_exact_Q rfl rfl <| .gYt rfl rfl rfl c37 <| .callG (C_l_is e39) ⟨rfl, rfl, trivial⟩ trivial trivial <| .pkTb rfl c37 rfl <| .mv rfl <| .gYt rfl rfl rfl c40 <| .fa rfl f_exact_Rot_1 <| .gYt rfl rfl rfl c40 <| .ldE (qC (v20)) rfl rfl ly_exact_Q rfl rfl <| .gYt rfl rfl rfl c40 <| .callG (C_l_is e42) ⟨rfl, rfl, trivial⟩ trivial trivial <| .pkTb rfl c40 rfl <| .mv rfl <| .gYt rfl rfl rfl c43 <| .ldE (qC (v1)) rfl rfl ly_exact_Q rfl rfl <| .gYt rfl rfl rfl c43 <| .ldE (qC (v4)) rfl rfl ly_exact_Q rfl rfl <| .gYt rfl rfl rfl c43 <| .callG (Q_add e45) ⟨rfl, rfl, trivial⟩ trivial trivial <| .gYt rfl rfl rfl c43 <| .callG (C_l_is e47) ⟨rfl, rfl, trivial⟩ trivial trivial <| .pkTb rfl c43 rfl <| .mv rfl <| .gYt rfl rfl rfl c48 <| .ldE (qC (v1)) rfl rfl ly_exact_Q rfl rfl <| .gYt rfl rfl rfl c48 <| .ldE (qC (v4)) rfl rfl ly_exact_Q rfl rfl <| .gYt rfl rfl rfl c48 <| .callG (Q_mul e50) ⟨rfl, rfl, trivial⟩ trivial trivial <| .gYt rfl rfl rfl c48 <| .callG (C_l_is e52) ⟨rfl, rfl, trivial⟩ trivial trivial <| .pkTb rfl c48 rfl <| .asg rfl <| .nil) rfl ?_
                        cases h
                        refine .retG (fun _ _ hb => hb) rfl (.cons (.tmp rfl) .nil) (.refl _) trivial trivial
                      · replace h := ite_neg_some c48 h
                        refine .reg (.mv rfl <| .cm rfl rfl rfl <| .mv rfl <| .gYt rfl rfl rfl c22 <| .mv rfl <| .gYt rfl rfl rfl c22 <| .cm rfl rfl rfl <| .pkTb rfl c22 rfl <| .mv rfl <| .gYt rfl rfl rfl c23 <| .mv rfl <| .gYt rfl rfl rfl c23 <| .cm rfl rfl rfl <| .pkTb rfl c23 rfl <| .mv rfl <| .gYt rfl rfl rfl c24 <| .mv rfl <| .gYt rfl rfl rfl c24 <| .cm rfl rfl rfl <| .pkTb rfl c24 rfl <| .mv rfl <| .gYt rfl rfl rfl c25 <| .ldE (qC (v1)) rfl rfl ly_exact_Q rfl rfl <| .gYt rfl rfl rfl c25 <| .callG (C_l_is e27) ⟨rfl, rfl, trivial⟩ trivial trivial <| .pkTb rfl c25 rfl <| .mv rfl <| .gYt rfl rfl rfl c28 <| .ldE (qC (v4)) rfl rfl ly_exact_Q rfl rfl <| .gYt rfl rfl rfl c28 <| .callG (C_l_is e30) ⟨rfl, rfl, trivial⟩ trivial trivial <| .pkTb rfl c28 rfl <| .mv rfl <| .gYt rfl rfl rfl c31 <| .ldE (qC (v9)) rfl rfl ly_exact_Q rfl rfl <| .gYt rfl rfl rfl c31 <| .callG (C_l_is e33) ⟨rfl, rfl, trivial⟩ trivial trivial <| .pkTb rfl c31 rfl <| .mv rfl <| .gYt rfl rfl rfl c34 <| .ldE (qC (v14)) rfl rfl ly_exact_Q rfl rfl <| .gYt rfl rfl rfl c34 <| .callG (C_l_is e36) ⟨rfl, rfl, trivial⟩ trivial trivial <| .pkTb rfl c34 rfl <| .mv rfl <| .gYt rfl rfl rfl c37 <| .fa rfl f_exact_Rot_0 <| .gYt rfl rfl rfl c37 <| .ldE (qC (v19)) rfl rfl ly_exact_Q rfl rfl <| .gYt rfl rfl rfl c37 <| .callG (C_l_is e39) ⟨rfl, rfl, trivial⟩ trivial trivial <| .pkTb rfl c37 rfl <| .mv rfl <| .gYt rfl rfl rfl c40 <| .fa rfl f_exact_Rot_1 <| .gYt rfl rfl rfl c40 <| .ldE (qC (v20)) rfl rfl ly_exact_Q rfl rfl <| .gYt rfl rfl rfl c40 <| .callG (C_l_is e42) ⟨rfl, rfl, trivial⟩ trivial trivial <| .pkTb rfl c40 rfl <| .mv rfl <| .gYt rfl rfl rfl c43 <| .ldE (qC (v1)) rfl rfl ly_exact_Q rfl rfl <| .gYt rfl rfl rfl c43 <| .ldE (qC (v4)) rfl rfl ly_exact_Q rfl rfl <| .gYt rfl rfl rfl c43 <| .callG (Q_add e45) ⟨rfl, rfl, trivial⟩ trivial trivial <| .gYt rfl rfl rfl c43 <| .callG (C_l_is e47) ⟨rfl, rfl, trivial⟩ trivial trivial <| .pkTb rfl c43 rfl <| .mv rfl <| .gNt rfl rfl rfl c48 <| .gNt rfl rfl rfl c48 <| .gNt rfl rfl rfl c48 <| .gNt rfl rfl rfl c48 <| .pkFb rfl c48 rfl <| .asg rfl <| .nil) rfl ?_
                        cases h
                        refine .retG (fun _ _ hb => hb) rfl (.cons (.tmp rfl) .nil) (.refl _) trivial trivial
                    · replace h := ite_neg_some c43 h
                      refine .reg (.mv rfl <| .cm rfl rfl rfl <| .mv rfl <| .gYt rfl rfl rfl c22 <| .mv rfl <| .gYt rfl rfl rfl c22 <| .cm rfl rfl rfl <| .pkTb rfl c22 rfl <| .mv rfl <| .gYt rfl rfl rfl c23 <| .mv rfl <| .gYt rfl rfl rfl c23 <| .cm rfl rfl rfl <| .pkTb rfl c23 rfl <| .mv rfl <| .gYt rfl rfl rfl c24 <| .mv rfl <| .gYt rfl rfl rfl c24 <| .cm rfl rfl rfl <| .pkTb rfl c24 rfl <| .mv rfl <| .gYt rfl rfl rfl c25 <| .ldE (qC (v1)) rfl rfl ly_exact_Q rfl rfl <| .gYt rfl rfl rfl c25 <| .callG (C_l_is e27) ⟨rfl, rfl, trivial⟩ trivial trivial <| .pkTb rfl c25 rfl <| .mv rfl <| .gYt rfl rfl rfl c28 <| .ldE (qC (v4)) rfl rfl ly_exact_Q rfl rfl <| .gYt rfl rfl rfl c28 <| .callG (C_l_is e30) ⟨rfl, rfl, trivial⟩ trivial trivial <| .pkTb rfl c28 rfl <| .mv rfl <| .gYt rfl rfl rfl c31 <| .ldE (qC (v9)) rfl rfl ly_exact_Q rfl rfl <| .gYt rfl rfl rfl c31 <| .callG (C_l_is e33) ⟨rfl, rfl, trivial⟩ trivial trivial <| .pkTb rfl c31 rfl <| .mv rfl <| .gYt rfl rfl rfl c34 <| .ldE (qC (v14)) rfl rfl ly_exact_Q rfl rfl <| .gYt rfl rfl rfl c34 <| .callG (C_l_is e36) ⟨rfl, rfl, trivial⟩ trivial trivial <| .pkTb rfl c34 rfl <| .mv rfl <| .gYt rfl rfl rfl c37 <| .fa rfl f_exact_Rot_0 <| .gYt rfl rfl rfl c37 <| .ldE (qC (v19)) rfl rfl ly_exact_Q rfl rfl <| .gYt rfl rfl rfl c37 <| .callG (C_l_is e39) ⟨rfl, rfl, trivial⟩ trivial trivial <| .pkTb rfl c37 rfl <| .mv rfl <| .gYt rfl rfl rfl c40 <| .fa rfl f_exact_Rot_1 <| .gYt rfl rfl rfl c40 <| .ldE (qC (v20)) rfl rfl ly_exact_Q rfl rfl <| .gYt rfl rfl rfl c40 <| .callG (C_l_is e42) ⟨rfl, rfl, trivial⟩ trivial trivial <| .pkTb rfl c40 rfl <| .mv rfl <| .gNt rfl rfl rfl c43 <| .gNt rfl rfl rfl c43 <| .gNt rfl rfl rfl c43 <| .gNt rfl rfl rfl c43 <| .pkFb rfl c43 rfl <| .mv rfl <| .gNt rfl rfl rfl (by decide) <| .gNt rfl rfl rfl (by decide) <| .gNt rfl rfl rfl (by decide) <| .gNt rfl rfl rfl (by decide) <| .pkFb rfl (by decide) rfl <| .asg rfl <| .nil) rfl ?_
                      cases h
                      refine .retG (fun _ _ hb => hb) rfl (.cons (.tmp rfl) .nil) (.refl _) trivial trivial
                  · replace h := ite_neg_some c40 h
                    refine .reg (.mv rfl <| .cm rfl rfl rfl <| .mv rfl <| .gYt rfl rfl rfl c22 <| .mv rfl <| .gYt rfl rfl rfl c22 <| .cm rfl rfl rfl <| .pkTb rfl c22 rfl <| .mv rfl <| .gYt rfl rfl rfl c23 <| .mv rfl <| .gYt rfl rfl rfl c23 <| .cm rfl rfl rfl <| .pkTb rfl c23 rfl <| .mv rfl <| .gYt rfl rfl rfl c24 <| .mv rfl <| .gYt rfl rfl rfl c24 <| .cm rfl rfl rfl <| .pkTb rfl c24 rfl <| .mv rfl <| .gYt rfl rfl rfl c25 <| .ldE (qC (v1)) rfl rfl ly_exact_Q rfl rfl <| .gYt rfl rfl rfl c25 <| .callG (C_l_is e27) ⟨rfl, rfl, trivial⟩ trivial trivial <| .pkTb rfl c25 rfl <| .mv rfl <| .gYt rfl rfl rfl c28 <| .ldE (qC (v4)) rfl rfl ly_exact_Q rfl rfl <| .gYt rfl rfl rfl c28 <| .callG (C_l_is e30) ⟨rfl, rfl, trivial⟩ trivial trivial <| .pkTb rfl c28 rfl <| .mv rfl <| .gYt rfl rfl rfl c31 <| .ldE (qC (v9)) rfl rfl ly_exact_Q rfl rfl <| .gYt rfl rfl rfl c31 <| .callG (C_l_is e33) ⟨rfl, rfl, trivial⟩ trivial trivial <| .pkTb rfl c31 rfl <| .mv rfl <| .gYt rfl rfl rfl c34 <| .ldE (qC (v14)) rfl rfl ly_exact_Q rfl rfl <| .gYt rfl rfl rfl c34 <| .callG (C_l_is e36) ⟨rfl, rfl, trivial⟩ trivial trivial <| .pkTb rfl c34 rfl <| .mv rfl <| .gYt rfl rfl rfl c37 <| .fa rfl f_exact_Rot_0 <| .gYt rfl rfl rfl c37 <| .ldE (qC (v19)) rfl rfl ly_exact_Q rfl rfl <| .gYt rfl rfl rfl c37 <| .callG (C_l_is e39) ⟨rfl, rfl, trivial⟩ trivial trivial <| .pkTb rfl c37 rfl <| .mv rfl <| .gNt rfl rfl rfl c40 <| .gNt rfl rfl rfl c40 <| .gNt rfl rfl rfl c40 <| .pkFb rfl c40 rfl <| .mv rfl <| .gNt rfl rfl rfl (by decide) <| .gNt rfl rfl rfl (by decide) <| .gNt rfl rfl rfl (by decide) <| .gNt rfl rfl rfl (by decide) <| .pkFb rfl (by decide) rfl <| .mv rfl <| .gNt rfl rfl rfl (by decide) <| .gNt rfl rfl rfl (by decide) <| .gNt rfl rfl rfl (by decide) <| .gNt rfl rfl rfl (by decide) <| .pkFb rfl (by decide) rfl <| .asg rfl <| .nil) rfl ?_
                    cases h
                    refine .retG (fun _ _ hb => hb) rfl (.cons (.tmp rfl) .nil) (.refl _) trivial trivial
                · replace h := ite_neg_some c37 h
                  refine .reg (.mv rfl <| .cm rfl rfl rfl <| .mv rfl <| .gYt rfl rfl rfl c22 <| .mv rfl <| .gYt rfl rfl rfl c22 <| .cm rfl rfl rfl <| .pkTb rfl c22 rfl <| .mv rfl <| .gYt rfl rfl rfl c23 <| .mv rfl <| .gYt rfl rfl rfl c23 <| .cm rfl rfl rfl <| .pkTb rfl c23 rfl <| .mv rfl <| .gYt rfl rfl rfl c24 <| .mv rfl <| .gYt rfl rfl rfl c24 <| .cm rfl rfl rfl <| .pkTb rfl c24 rfl <| .mv rfl <| .gYt rfl rfl rfl c25 <| .ldE (qC (v1)) rfl rfl ly_exact_Q rfl rfl <| .gYt rfl rfl rfl c25 <| .callG (C_l_is e27) ⟨rfl, rfl, trivial⟩ trivial trivial <| .pkTb rfl c25 rfl <| .mv rfl <| .gYt rfl rfl rfl c28 <| .ldE (qC (v4)) rfl rfl ly_exact_Q rfl rfl <| .gYt rfl rfl rfl c28 <| .callG (C_l_is e30) ⟨rfl, rfl, trivial⟩ trivial trivial <| .pkTb rfl c28 rfl <| .mv rfl <| .gYt rfl rfl rfl c31 <| .ldE (qC (v9)) rfl rfl ly_exact_Q rfl rfl <| .gYt rfl rfl rfl c31 <| .callG (C_l_is e33) ⟨rfl, rfl, trivial⟩ trivial trivial <| .pkTb rfl c31 rfl <| .mv rfl <| .gYt rfl rfl rfl c34 <| .ldE (qC (v14)) rfl rfl ly_exact_Q rfl rfl <| .gYt rfl rfl rfl c34 <| .callG (C_l_is e36) ⟨rfl, rfl, trivial⟩ trivial trivial <| .pkTb rfl c34 rfl <| .mv rfl <| .gNt rfl rfl rfl c37 <| .gNt rfl rfl rfl c37 <| .gNt rfl rfl rfl c37 <| .pkFb rfl c37 rfl <| .mv rfl <| .gNt rfl rfl rfl (by decide) <| .gNt rfl rfl rfl (by decide) <| .gNt rfl rfl rfl (by decide) <| .pkFb rfl (by decide) rfl <| .mv rfl <| .gNt rfl rfl rfl (by decide) <| .gNt rfl rfl rfl (by decide) <| .gNt rfl rfl rfl (by decide) <| .gNt rfl rfl rfl (by decide) <| .pkFb rfl (by decide) rfl <| .mv rfl <| .gNt rfl rfl rfl (by decide) <| .gNt rfl rfl rfl (by decide) <| .gNt rfl rfl rfl (by decide) <| .gNt rfl rfl rfl (by decide) <| .pkFb rfl (by decide) rfl <| .asg rfl <| .nil) rfl ?_
                  cases h
                  refine .retG (fun _ _ hb => hb) rfl (.cons (.tmp rfl) .nil) (.refl _) trivial trivial
              · replace h := ite_neg_some c34 h
                refine .reg (.mv rfl <| .cm rfl rfl rfl <| .mv rfl <| .gYt rfl rfl rfl c22 <| .mv rfl <| .gYt rfl rfl rfl c22 <| .cm rfl rfl rfl <| .pkTb rfl c22 rfl <| .mv rfl <| .gYt rfl rfl rfl c23 <| .mv rfl <| .gYt rfl rfl rfl c23 <| .cm rfl rfl rfl <| .pkTb rfl c23 rfl <| .mv rfl <| .gYt rfl rfl rfl c24 <| .mv rfl <| .gYt rfl rfl rfl c24 <| .cm rfl rfl rfl <| .pkTb rfl c24 rfl <| .mv rfl <| .gYt rfl rfl rfl c25 <| .ldE (qC (v1)) rfl rfl ly_exact_Q rfl rfl <| .gYt rfl rfl rfl c25 <| .callG (C_l_is e27) ⟨rfl, rfl, trivial⟩ trivial trivial <| .pkTb rfl c25 rfl <| .mv rfl <| .gYt rfl rfl rfl c28 <| .ldE (qC (v4)) rfl rfl ly_exact_Q rfl rfl <| .gYt rfl rfl rfl c28 <| .callG (C_l_is e30) ⟨rfl, rfl, trivial⟩ trivial trivial <| .pkTb rfl c28 rfl <| .mv rfl <| .gYt rfl rfl rfl c31 <| .ldE (qC (v9)) rfl rfl ly_exact_Q rfl rfl <| .gYt rfl rfl rfl c31 <| .callG (C_l_is e33) ⟨rfl, rfl, trivial⟩ trivial trivial <| .pkTb rfl c31 rfl <| .mv rfl <| .gNt rfl rfl rfl c34 <| .gNt rfl rfl rfl c34 <| .pkFb rfl c34 rfl <| .mv rfl <| .gNt rfl rfl rfl (by decide) <| .gNt rfl rfl rfl (by decide) <| .gNt rfl rfl rfl (by decide) <| .pkFb rfl (by decide) rfl <| .mv rfl <| .gNt rfl rfl rfl (by decide) <| .gNt rfl rfl rfl (by decide) <| .gNt rfl rfl rfl (by decide) <| .pkFb rfl (by decide) rfl <| .mv rfl <| .gNt rfl rfl rfl (by decide) <| .gNt rfl rfl rfl (by decide) <| .gNt rfl rfl rfl (by decide) <| .gNt rfl rfl rfl (by decide) <| .pkFb rfl (by decide) rfl <| .mv rfl <| .gNt rfl rfl rfl (by decide) <| .gNt rfl rfl rfl (by decide) <| .gNt rfl rfl rfl (by decide) <| .gNt rfl rfl rfl (by decide) <| .pkFb rfl (by decide) rfl <| .asg rfl <| .nil) rfl ?_
                cases h
                refine .retG (fun _ _ hb => hb) rfl (.cons (.tmp rfl) .nil) (.refl _) trivial trivial
            · replace h := ite_neg_some c31 h
              refine .reg (.mv rfl <| .cm rfl rfl rfl <| .mv rfl <| .gYt rfl rfl rfl c22 <| .mv rfl <| .gYt rfl rfl rfl c22 <| .cm rfl rfl rfl <| .pkTb rfl c22 rfl <| .mv rfl <| .gYt rfl rfl rfl c23 <| .mv rfl <| .gYt rfl rfl rfl c23 <| .cm rfl rfl rfl <| .pkTb rfl c23 rfl <| .mv rfl <| .gYt rfl rfl rfl c24 <| .mv rfl <| .gYt rfl rfl rfl c24 <| .cm rfl rfl rfl <| .pkTb rfl c24 rfl <| .mv rfl <| .gYt rfl rfl rfl c25 <| .ldE (qC (v1)) rfl rfl ly_exact_Q rfl rfl <| .gYt rfl rfl rfl c25 <| .callG (C_l_is e27) ⟨rfl, rfl, trivial⟩ trivial trivial <| .pkTb rfl c25 rfl <| .mv rfl <| .gYt rfl rfl rfl c28 <| .ldE (qC (v4)) rfl rfl ly_exact_Q rfl rfl <| .gYt rfl rfl rfl c28 <| .callG (C_l_is e30) ⟨rfl, rfl, trivial⟩ trivial trivial <| .pkTb rfl c28 rfl <| .mv rfl <| .gNt rfl rfl rfl c31 <| .gNt rfl rfl rfl c31 <| .pkFb rfl c31 rfl <| .mv rfl <| .gNt rfl rfl rfl (by decide) <| .gNt rfl rfl rfl (by decide) <| .pkFb rfl (by decide) rfl <| .mv rfl <| .gNt rfl rfl rfl (by decide) <| .gNt rfl rfl rfl (by decide) <| .gNt rfl rfl rfl (by decide) <| .pkFb rfl (by decide) rfl <| .mv rfl <| .gNt rfl rfl rfl (by decide) <| .gNt rfl rfl rfl (by decide) <| .gNt rfl rfl rfl (by decide) <| .pkFb rfl (by decide) rfl <| .mv rfl <| .gNt rfl rfl rfl (by decide) <| .gNt rfl rfl rfl (by decide) <| .gNt rfl rfl rfl (by decide) <| .gNt rfl rfl rfl (by decide) <| .pkFb rfl (by decide) rfl <| .mv rfl <| .gNt rfl rfl rfl (by decide) <| .gNt rfl rfl rfl (by decide) <| .gNt rfl rfl rfl (by decide) <| .gNt rfl rfl rfl (by decide) <| .pkFb rfl (by decide) rfl <| .asg rfl <| .nil) rfl ?_
              cases h
              refine .retG (fun _ _ hb => hb) rfl (.cons (.tmp rfl) .nil) (.refl _) trivial trivial
          · replace h := ite_neg_some c28 h
            refine .reg (.mv rfl <| .cm rfl rfl rfl <| .mv rfl <| .gYt rfl rfl rfl c22 <| .mv rfl <| .gYt rfl rfl rfl c22 <| .cm rfl rfl rfl <| .pkTb rfl c22 rfl <| .mv rfl <| .gYt rfl rfl rfl c23 <| .mv rfl <| .gYt rfl rfl rfl c23 <| .cm rfl rfl rfl <| .pkTb rfl c23 rfl <| .mv rfl <| .gYt rfl rfl rfl c24 <| .mv rfl <| .gYt rfl rfl rfl c24 <| .cm rfl rfl rfl <| .pkTb rfl c24 rfl <| .mv rfl <| .gYt rfl rfl rfl c25 <| .ldE (qC (v1)) rfl rfl ly_exact_Q rfl rfl <| .gYt rfl rfl rfl c25 <| .callG (C_l_is e27) ⟨rfl, rfl, trivial⟩ trivial trivial <| .pkTb rfl c25 rfl <| .mv rfl <| .gNt rfl rfl rfl c28 <| .gNt rfl rfl rfl c28 <| .pkFb rfl c28 rfl <| .mv rfl <| .gNt rfl rfl rfl (by decide) <| .gNt rfl rfl rfl (by decide) <| .pkFb rfl (by decide) rfl <| .mv rfl <| .gNt rfl rfl rfl (by decide) <| .gNt rfl rfl rfl (by decide) <| .pkFb rfl (by decide) rfl <| .mv rfl <| .gNt rfl rfl rfl (by decide) <| .gNt rfl rfl rfl (by decide) <| .gNt rfl rfl rfl (by decide) <| .pkFb rfl (by decide) rfl <| .mv rfl <| .gNt rfl rfl rfl (by decide) <| .gNt rfl rfl rfl (by decide) <| .gNt rfl rfl rfl (by decide) <| .pkFb rfl (by decide) rfl <| .mv rfl <| .gNt rfl rfl rfl (by decide) <| .gNt rfl rfl rfl (by decide) <| .gNt rfl rfl rfl (by decide) <| .gNt rfl rfl rfl (by decide) <| .pkFb rfl (by decide) rfl <| .mv rfl <| .gNt rfl rfl rfl (by decide) <| .gNt rfl rfl rfl (by decide) <| .gNt rfl rfl rfl (by decide) <| .gNt rfl rfl rfl (by decide) <| .pkFb rfl (by decide) rfl <| .asg rfl <| .nil) rfl ?_
            cases h
            refine .retG (fun _ _ hb => hb) rfl (.cons (.tmp rfl) .nil) (.refl _) trivial trivial
        · replace h := ite_neg_some c25 h
          refine .reg (.mv rfl <| .cm rfl rfl rfl <| .mv rfl <| .gYt rfl rfl rfl c22 <| .mv rfl <| .gYt rfl rfl rfl c22 <| .cm rfl rfl rfl <| .pkTb rfl c22 rfl <| .mv rfl <| .gYt rfl rfl rfl c23 <| .mv rfl <| .gYt rfl rfl rfl c23 <| .cm rfl rfl rfl <| .pkTb rfl c23 rfl <| .mv rfl <| .gYt rfl rfl rfl c24 <| .mv rfl <| .gYt rfl rfl rfl c24 <| .cm rfl rfl rfl <| .pkTb rfl c24 rfl <| .mv rfl <| .gNt rfl rfl rfl c25 <| .gNt rfl rfl rfl c25 <| .pkFb rfl c25 rfl <| .mv rfl <| .gNt rfl rfl rfl (by decide) <| .gNt rfl rfl rfl (by decide) <| .pkFb rfl (by decide) rfl <| .mv rfl <| .gNt rfl rfl rfl (by decide) <| .gNt rfl rfl rfl (by decide) <| .pkFb rfl (by decide) rfl <| .mv rfl <| .gNt rfl rfl rfl (by decide) <| .gNt rfl rfl rfl (by decide) <| .pkFb rfl (by decide) rfl <| .mv rfl <| .gNt rfl rfl rfl (by decide) <| .gNt rfl rfl rfl (by decide) <| .gNt rfl rfl rfl (by decide) <| .pkFb rfl (by decide) rfl <| .mv rfl <| .gNt rfl rfl rfl (by decide) <| .gNt rfl rfl rfl (by decide) <| .gNt rfl rfl rfl (by decide) <| .pkFb rfl (by decide) rfl <| .mv rfl <| .gNt rfl rfl rfl (by decide) <| .gNt rfl rfl rfl (by decide) <| .gNt rfl rfl rfl (by decide) <| .gNt rfl rfl rfl (by decide) <| .pkFb rfl (by decide) rfl <| .mv rfl <| .gNt rfl rfl rfl (by decide) <| .gNt rfl rfl rfl (by decide) <| .gNt rfl rfl rfl (by decide) <| .gNt rfl rfl rfl (by decide) <| .pkFb rfl (by decide) rfl <| .asg rfl <| .nil) rfl ?_
          cases h
          refine .retG (fun _ _ hb => hb) rfl (.cons (.tmp rfl) .nil) (.refl _) trivial trivial
      · replace h := ite_neg_some c24 h
        refine .reg (.mv rfl <| .cm rfl rfl rfl <| .mv rfl <| .gYt rfl rfl rfl c22 <| .mv rfl <| .gYt rfl rfl rfl c22 <| .cm rfl rfl rfl <| .pkTb rfl c22 rfl <| .mv rfl <| .gYt rfl rfl rfl c23 <| .mv rfl <| .gYt rfl rfl rfl c23 <| .cm rfl rfl rfl <| .pkTb rfl c23 rfl <| .mv rfl <| .gNt rfl rfl rfl c24 <| .gNt rfl rfl rfl c24 <| .pkFb rfl c24 rfl <| .mv rfl <| .gNt rfl rfl rfl (by decide) <| .gNt rfl rfl rfl (by decide) <| .pkFb rfl (by decide) rfl <| .mv rfl <| .gNt rfl rfl rfl (by decide) <| .gNt rfl rfl rfl (by decide) <| .pkFb rfl (by decide) rfl <| .mv rfl <| .gNt rfl rfl rfl (by decide) <| .gNt rfl rfl rfl (by decide) <| .pkFb rfl (by decide) rfl <| .mv rfl <| .gNt rfl rfl rfl (by decide) <| .gNt rfl rfl rfl (by decide) <| .pkFb rfl (by decide) rfl <| .mv rfl <| .gNt rfl rfl rfl (by decide) <| .gNt rfl rfl rfl (by decide) <| .gNt rfl rfl rfl (by decide) <| .pkFb rfl (by decide) rfl <| .mv rfl <| .gNt rfl rfl rfl (by decide) <| .gNt rfl rfl rfl (by decide) <| .gNt rfl rfl rfl (by decide) <| .pkFb rfl (by decide) rfl <| .mv rfl <| .gNt rfl rfl rfl (by decide) <| .gNt rfl rfl rfl (by decide) <| .gNt rfl rfl rfl (by decide) <| .gNt rfl rfl rfl (by decide) <| .pkFb rfl (by decide) rfl <| .mv rfl <| .gNt rfl rfl rfl (by decide) <| .gNt rfl rfl rfl (by decide) <| .gNt rfl rfl rfl (by decide) <| .gNt rfl rfl rfl (by decide) <| .pkFb rfl (by decide) rfl <| .asg rfl <| .nil) rfl ?_
        cases h
        refine .retG (fun _ _ hb => hb) rfl (.cons (.tmp rfl) .nil) (.refl _) trivial trivial
    · replace h := ite_neg_some c23 h
      refine .reg (.mv rfl <| .cm rfl rfl rfl <| .mv rfl <| .gYt rfl rfl rfl c22 <| .mv rfl <| .gYt rfl rfl rfl c22 <| .cm rfl rfl rfl <| .pkTb rfl c22 rfl <| .mv rfl <| .gNt rfl rfl rfl c23 <| .gNt rfl rfl rfl c23 <| .pkFb rfl c23 rfl <| .mv rfl <| .gNt rfl rfl rfl (by decide) <| .gNt rfl rfl rfl (by decide) <| .pkFb rfl (by decide) rfl <| .mv rfl <| .gNt rfl rfl rfl (by decide) <| .gNt rfl rfl rfl (by decide) <| .pkFb rfl (by decide) rfl <| .mv rfl <| .gNt rfl rfl rfl (by decide) <| .gNt rfl rfl rfl (by decide) <| .pkFb rfl (by decide) rfl <| .mv rfl <| .gNt rfl rfl rfl (by decide) <| .gNt rfl rfl rfl (by decide) <| .pkFb rfl (by decide) rfl <| .mv rfl <| .gNt rfl rfl rfl (by decide) <| .gNt rfl rfl rfl (by decide) <| .pkFb rfl (by decide) rfl <| .mv rfl <| .gNt rfl rfl rfl (by decide) <| .gNt rfl rfl rfl (by decide) <| .gNt rfl rfl rfl (by decide) <| .pkFb rfl (by decide) rfl <| .mv rfl <| .gNt rfl rfl rfl (by decide) <| .gNt rfl rfl rfl (by decide) <| .gNt rfl rfl rfl (by decide) <| .pkFb rfl (by decide) rfl <| .mv rfl <| .gNt rfl rfl rfl (by decide) <| .gNt rfl rfl rfl (by decide) <| .gNt rfl rfl rfl (by decide) <| .gNt rfl rfl rfl (by decide) <| .pkFb rfl (by decide) rfl <| .mv rfl <| .gNt rfl rfl rfl (by decide) <| .gNt rfl rfl rfl (by decide) <| .gNt rfl rfl rfl (by decide) <| .gNt rfl rfl rfl (by decide) <| .pkFb rfl (by decide) rfl <| .asg rfl <| .nil) rfl ?_
      cases h
      refine .retG (fun _ _ hb => hb) rfl (.cons (.tmp rfl) .nil) (.refl _) trivial trivial
  · replace h := ite_neg_some c22 h
    refine .reg (.mv rfl <| .cm rfl rfl rfl <| .mv rfl <| .gNt rfl rfl rfl c22 <| .gNt rfl rfl rfl c22 <| .pkFb rfl c22 rfl <| .mv rfl <| .gNt rfl rfl rfl (by decide) <| .gNt rfl rfl rfl (by decide) <| .pkFb rfl (by decide) rfl <| .mv rfl <| .gNt rfl rfl rfl (by decide) <| .gNt rfl rfl rfl (by decide) <| .pkFb rfl (by decide) rfl <| .mv rfl <| .gNt rfl rfl rfl (by decide) <| .gNt rfl rfl rfl (by decide) <| .pkFb rfl (by decide) rfl <| .mv rfl <| .gNt rfl rfl rfl (by decide) <| .gNt rfl rfl rfl (by decide) <| .pkFb rfl (by decide) rfl <| .mv rfl <| .gNt rfl rfl rfl (by decide) <| .gNt rfl rfl rfl (by decide) <| .pkFb rfl (by decide) rfl <| .mv rfl <| .gNt rfl rfl rfl (by decide) <| .gNt rfl rfl rfl (by decide) <| .pkFb rfl (by decide) rfl <| .mv rfl <| .gNt rfl rfl rfl (by decide) <| .gNt rfl rfl rfl (by decide) <| .gNt rfl rfl rfl (by decide) <| .pkFb rfl (by decide) rfl <| .mv rfl <| .gNt rfl rfl rfl (by decide) <| .gNt rfl rfl rfl (by decide) <| .gNt rfl rfl rfl (by decide) <| .pkFb rfl (by decide) rfl <| .mv rfl <| .gNt rfl rfl rfl (by decide) <| .gNt rfl rfl rfl (by decide) <| .gNt rfl rfl rfl (by decide) <| .gNt rfl rfl rfl (by decide) <| .pkFb rfl (by decide) rfl <| .mv rfl <| .gNt rfl rfl rfl (by decide) <| .gNt rfl rfl rfl (by decide) <| .gNt rfl rfl rfl (by decide) <| .gNt rfl rfl rfl (by decide) <| .pkFb rfl (by decide) rfl <| .asg rfl <| .nil) rfl ?_
    cases h
    refine .retG (fun _ _ hb => hb) rfl (.cons (.tmp rfl) .nil) (.refl _) trivial trivial
end
end Go.Am
