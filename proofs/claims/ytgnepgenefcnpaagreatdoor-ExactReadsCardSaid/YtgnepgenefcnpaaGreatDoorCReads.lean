/- ExactReads: the walk of the law, and its plain law: it returns true for every input. No condition. -/
import Derived.Test.YtgnepgenefcnpaaGreatDoorBbG
set_option linter.unusedVariables false
set_option linter.unusedSimpArgs false
namespace Go.Am
open Go.RowKit
set_option maxRecDepth 100000
noncomputable section
def m_l_ExactReads (a1 : List UInt8) : Option Bool := (if (decide ((a1.length : Int) > 2000)) = true then (m_l_awake).bind fun v3 => some v3 else (q_parse a1).bind fun (v5, v6) => (if (decide ((a1.length : Int) > 1000)) = true then (if (v6 == 5) = true then (q_sign v5).bind fun v10 => (if (v10 == 0) = true then (m_l_awake).bind fun v13 => some v13 else some false) else some false) else (r_parse a1).bind fun (v15, v16) => (if (v16 == 1) = true then (if (v6 == 4) = true then (q_sign v5).bind fun v20 => (if (v20 == 0) = true then (m_l_awake).bind fun v23 => some v23 else some false) else some false) else (if (v16 == 2) = true then (if (v6 == 9) = true then (q_sign v5).bind fun v27 => (if (v27 == 0) = true then (m_l_awake).bind fun v30 => some v30 else some false) else some false) else (if (v6 == 0) = true then (m_l_Same v5 v15).bind fun v33 => (if v33 = true then (m_l_awake).bind fun v36 => some v36 else some false) else some false)))))
theorem C_l_ExactReads {a1 : List UInt8} {r38 : Bool} (h : m_l_ExactReads a1 = some r38) : CtrG PP 3 [] [strD a1] [] (D.bool r38) := by
  unfold m_l_ExactReads at h
  refine .of Go.Proofs.Tryz.func3 rfl (by kernel_rfl) rfl rfl rfl rfl rfl rfl (fun A w0 L b => ?_)
  show Ok PP _ [(0, strD a1)] [] _ _
  refine .reg (.asg rfl <| .nil) rfl ?_
  refine .sq ?_
  refine .reg (.mv rfl <| .tlen rfl is_string <| .cm rfl rfl rfl <| .nil) rfl ?_
  by_cases c2 : (decide ((a1.length : Int) > 2000)) = true
  · replace h := ite_pos_some c2 h
    refine .cTb rfl c2 ?_
    obtain ⟨v3, e4, h⟩ := bind_some h
    refine .reg (.callG (C_l_awake e4) trivial trivial trivial <| .asg rfl <| .nil) rfl ?_
    cases h
    refine .retG (fun _ _ hb => hb) rfl (.cons (.tmp rfl) .nil) (.refl _) trivial trivial
  · replace h := ite_neg_some c2 h
    refine .cFb rfl c2 ?_
    refine .skip (Ok.on ?_)
    obtain ⟨⟨v5, v6⟩, e7, h⟩ := bind_some h
    refine .reg (.mv rfl <| .callG (Q_parse e7) ⟨rfl, trivial⟩ trivial trivial <| .mv rfl <| .ext rfl rfl <| .ext rfl rfl <| .alL (qC (0)) z_exact_Q ⟨zq1, zq2, zq3, trivial⟩ rfl <| .stE (qC (v5)) rfl rfl rfl ly_exact_Q rfl rfl rfl <| .asg rfl <| .nil) rfl ?_
    refine .sq ?_
    refine .reg (.mv rfl <| .tlen rfl is_string <| .cm rfl rfl rfl <| .nil) rfl ?_
    by_cases c8 : (decide ((a1.length : Int) > 1000)) = true
    · replace h := ite_pos_some c8 h
      refine .cTb rfl c8 ?_
      by_cases c9 : (v6 == 5) = true
      · replace h := ite_pos_some c9 h
        obtain ⟨v10, e11, h⟩ := bind_some h
        by_cases c12 : (v10 == 0) = true
        · replace h := ite_pos_some c12 h
          obtain ⟨v13, e14, h⟩ := bind_some h
          refine .reg (.mv rfl <| .cm rfl rfl rfl <| .mv rfl <| .gYt rfl rfl rfl c9 <| .ldE (qC (v5)) rfl rfl ly_exact_Q rfl rfl <| .gYt rfl rfl rfl c9 <| .callG (Q_sign e11) ⟨rfl, trivial⟩ trivial trivial <| .gYt rfl rfl rfl c9 <| .cm rfl rfl rfl <| .pkTb rfl c9 rfl <| .mv rfl <| .gYt rfl rfl rfl c12 <| .callG (C_l_awake e14) trivial trivial trivial <| .pkTb rfl c12 rfl <| .asg rfl <| .nil) rfl ?_
          cases h
          refine .retG (fun _ _ hb => hb) rfl (.cons (.tmp rfl) .nil) (.refl _) trivial trivial
        · replace h := ite_neg_some c12 h
          refine .reg (.mv rfl <| .cm rfl rfl rfl <| .mv rfl <| .gYt rfl rfl rfl c9 <| .ldE (qC (v5)) rfl rfl ly_exact_Q rfl rfl <| .gYt rfl rfl rfl c9 <| .callG (Q_sign e11) ⟨rfl, trivial⟩ trivial trivial <| .gYt rfl rfl rfl c9 <| .cm rfl rfl rfl <| .pkTb rfl c9 rfl <| .mv rfl <| .gNt rfl rfl rfl c12 <| .pkFb rfl c12 rfl <| .asg rfl <| .nil) rfl ?_
          cases h
          refine .retG (fun _ _ hb => hb) rfl (.cons (.tmp rfl) .nil) (.refl _) trivial trivial
      · replace h := ite_neg_some c9 h
        refine .reg (.mv rfl <| .cm rfl rfl rfl <| .mv rfl <| .gNt rfl rfl rfl c9 <| .gNt rfl rfl rfl c9 <| .gNt rfl rfl rfl c9 <| .pkFb rfl c9 rfl <| .mv rfl <| .gNt rfl rfl rfl (by decide) <| .pkFb rfl (by decide) rfl <| .asg rfl <| .nil) rfl ?_
        cases h
        refine .retG (fun _ _ hb => hb) rfl (.cons (.tmp rfl) .nil) (.refl _) trivial trivial
    · replace h := ite_neg_some c8 h
      refine .cFb rfl c8 ?_
      refine .skip (Ok.on ?_)
      obtain ⟨⟨v15, v16⟩, e17, h⟩ := bind_some h
      refine .reg (.mv rfl <| .callG (R_parse e17) ⟨rfl, trivial⟩ trivial trivial <| .mv rfl <| .ext rfl rfl <| .ext rfl rfl <| .alL (rqC (0)) z_ambleref01_Q ⟨zr1, zr2, .refl _, zr4, trivial⟩ rfl <| .stE (rqC (v15)) rfl rfl rfl ly_ambleref01_Q rfl rfl rfl <| .asg rfl <| .nil) rfl ?_
      refine .sq ?_
      refine .reg (.mv rfl <| .nil) rfl ?_
      refine .block ?_
      refine .reg (.cm rfl rfl rfl <| .asg rfl <| .nil) rfl ?_
      by_cases c18 : (v16 == 1) = true
      · replace h := ite_pos_some c18 h
        refine .cTb rfl c18 ?_
        by_cases c19 : (v6 == 4) = true
        · replace h := ite_pos_some c19 h
          obtain ⟨v20, e21, h⟩ := bind_some h
          by_cases c22 : (v20 == 0) = true
          · replace h := ite_pos_some c22 h
            obtain ⟨v23, e24, h⟩ := bind_some h
            refine .reg (.mv rfl <| .cm rfl rfl rfl <| .mv rfl <| .gYt rfl rfl rfl c19 <| .ldE (qC (v5)) rfl rfl ly_exact_Q rfl rfl <| .gYt rfl rfl rfl c19 <| .callG (Q_sign e21) ⟨rfl, trivial⟩ trivial trivial <| .gYt rfl rfl rfl c19 <| .cm rfl rfl rfl <| .pkTb rfl c19 rfl <| .mv rfl <| .gYt rfl rfl rfl c22 <| .callG (C_l_awake e24) trivial trivial trivial <| .pkTb rfl c22 rfl <| .asg rfl <| .nil) rfl ?_
            cases h
            refine .retG (fun _ _ hb => hb) rfl (.cons (.tmp rfl) .nil) (.refl _) trivial trivial
          · replace h := ite_neg_some c22 h
            refine .reg (.mv rfl <| .cm rfl rfl rfl <| .mv rfl <| .gYt rfl rfl rfl c19 <| .ldE (qC (v5)) rfl rfl ly_exact_Q rfl rfl <| .gYt rfl rfl rfl c19 <| .callG (Q_sign e21) ⟨rfl, trivial⟩ trivial trivial <| .gYt rfl rfl rfl c19 <| .cm rfl rfl rfl <| .pkTb rfl c19 rfl <| .mv rfl <| .gNt rfl rfl rfl c22 <| .pkFb rfl c22 rfl <| .asg rfl <| .nil) rfl ?_
            cases h
            refine .retG (fun _ _ hb => hb) rfl (.cons (.tmp rfl) .nil) (.refl _) trivial trivial
        · replace h := ite_neg_some c19 h
          refine .reg (.mv rfl <| .cm rfl rfl rfl <| .mv rfl <| .gNt rfl rfl rfl c19 <| .gNt rfl rfl rfl c19 <| .gNt rfl rfl rfl c19 <| .pkFb rfl c19 rfl <| .mv rfl <| .gNt rfl rfl rfl (by decide) <| .pkFb rfl (by decide) rfl <| .asg rfl <| .nil) rfl ?_
          cases h
          refine .retG (fun _ _ hb => hb) rfl (.cons (.tmp rfl) .nil) (.refl _) trivial trivial
      · replace h := ite_neg_some c18 h
        refine .cFb rfl c18 ?_
        refine .reg (.cm rfl rfl rfl <| .asg rfl <| .nil) rfl ?_
        by_cases c25 : (v16 == 2) = true
        · replace h := ite_pos_some c25 h
          refine .cTb rfl c25 ?_
          by_cases c26 : (v6 == 9) = true
          · replace h := ite_pos_some c26 h
            obtain ⟨v27, e28, h⟩ := bind_some h
            by_cases c29 : (v27 == 0) = true
            · replace h := ite_pos_some c29 h
              obtain ⟨v30, e31, h⟩ := bind_some h
              refine .reg (.mv rfl <| .cm rfl rfl rfl <| .mv rfl <| .gYt rfl rfl rfl c26 <| .ldE (qC (v5)) rfl rfl ly_exact_Q rfl rfl <| .gYt rfl rfl rfl c26 <| .callG (Q_sign e28) ⟨rfl, trivial⟩ trivial trivial <| .gYt rfl rfl rfl c26 <| .cm rfl rfl rfl <| .pkTb rfl c26 rfl <| .mv rfl <| .gYt rfl rfl rfl c29 <| .callG (C_l_awake e31) trivial trivial trivial <| .pkTb rfl c29 rfl <| .asg rfl <| .nil) rfl ?_
              cases h
              refine .retG (fun _ _ hb => hb) rfl (.cons (.tmp rfl) .nil) (.refl _) trivial trivial
            · replace h := ite_neg_some c29 h
              refine .reg (.mv rfl <| .cm rfl rfl rfl <| .mv rfl <| .gYt rfl rfl rfl c26 <| .ldE (qC (v5)) rfl rfl ly_exact_Q rfl rfl <| .gYt rfl rfl rfl c26 <| .callG (Q_sign e28) ⟨rfl, trivial⟩ trivial trivial <| .gYt rfl rfl rfl c26 <| .cm rfl rfl rfl <| .pkTb rfl c26 rfl <| .mv rfl <| .gNt rfl rfl rfl c29 <| .pkFb rfl c29 rfl <| .asg rfl <| .nil) rfl ?_
              cases h
              refine .retG (fun _ _ hb => hb) rfl (.cons (.tmp rfl) .nil) (.refl _) trivial trivial
          · replace h := ite_neg_some c26 h
            refine .reg (.mv rfl <| .cm rfl rfl rfl <| .mv rfl <| .gNt rfl rfl rfl c26 <| .gNt rfl rfl rfl c26 <| .gNt rfl rfl rfl c26 <| .pkFb rfl c26 rfl <| .mv rfl <| .gNt rfl rfl rfl (by decide) <| .pkFb rfl (by decide) rfl <| .asg rfl <| .nil) rfl ?_
            cases h
            refine .retG (fun _ _ hb => hb) rfl (.cons (.tmp rfl) .nil) (.refl _) trivial trivial
        · replace h := ite_neg_some c25 h
          refine .cFb rfl c25 ?_
          refine .skip (Ok.on ?_)
          by_cases c32 : (v6 == 0) = true
          · replace h := ite_pos_some c32 h
            obtain ⟨v33, e34, h⟩ := bind_some h
            by_cases c35 : v33 = true
            · replace h := ite_pos_some c35 h
              obtain ⟨v36, e37, h⟩ := bind_some h
              refine .reg (.mv rfl <| .cm rfl rfl rfl <| .mv rfl <| .gYt rfl rfl rfl c32 <| .ldE (qC (v5)) rfl rfl ly_exact_Q rfl rfl <| .gYt rfl rfl rfl c32 <| .ldE (rqC (v15)) rfl rfl ly_ambleref01_Q rfl rfl <| .gYt rfl rfl rfl c32 <| .callG (C_l_Same e34) ⟨rfl, rfl, trivial⟩ trivial trivial <| .pkTb rfl c32 rfl <| .mv rfl <| .gYt rfl rfl rfl c35 <| .callG (C_l_awake e37) trivial trivial trivial <| .pkTb rfl c35 rfl <| .asg rfl <| .nil) rfl ?_
              cases h
              refine .retG (fun _ _ hb => hb) rfl (.cons (.tmp rfl) .nil) (.refl _) trivial trivial
            · replace h := ite_neg_some c35 h
              refine .reg (.mv rfl <| .cm rfl rfl rfl <| .mv rfl <| .gYt rfl rfl rfl c32 <| .ldE (qC (v5)) rfl rfl ly_exact_Q rfl rfl <| .gYt rfl rfl rfl c32 <| .ldE (rqC (v15)) rfl rfl ly_ambleref01_Q rfl rfl <| .gYt rfl rfl rfl c32 <| .callG (C_l_Same e34) ⟨rfl, rfl, trivial⟩ trivial trivial <| .pkTb rfl c32 rfl <| .mv rfl <| .gNt rfl rfl rfl c35 <| .pkFb rfl c35 rfl <| .asg rfl <| .nil) rfl ?_
              cases h
              refine .retG (fun _ _ hb => hb) rfl (.cons (.tmp rfl) .nil) (.refl _) trivial trivial
          · replace h := ite_neg_some c32 h
            refine .reg (.mv rfl <| .cm rfl rfl rfl <| .mv rfl <| .gNt rfl rfl rfl c32 <| .gNt rfl rfl rfl c32 <| .gNt rfl rfl rfl c32 <| .pkFb rfl c32 rfl <| .mv rfl <| .gNt rfl rfl rfl (by decide) <| .pkFb rfl (by decide) rfl <| .asg rfl <| .nil) rfl ?_
            cases h
            refine .retG (fun _ _ hb => hb) rfl (.cons (.tmp rfl) .nil) (.refl _) trivial trivial
end
end Go.Am
namespace Go.Am
theorem Reads_true (s : List UInt8) (h : s.length ≤ 9223372036854775807) : m_l_ExactReads s = some true := by
  unfold m_l_ExactReads
  rw [awake_true]
  by_cases h1 : (s.length : Int) > 2000
  · rw [if_pos (decide_eq_true h1)]; rfl
  rw [if_neg (by simpa using h1)]
  have e1 : q_parse s = some (parseQ s) := must_eq h
  rw [e1]
  have hs := parseQ_sz s
  by_cases h2 : (s.length : Int) > 1000
  · have e2 : parseQ s = (0, 5) := by unfold parseQ; rw [if_pos (by omega)]
    rw [e2]
    simp only [Option.bind_some]
    rw [if_pos (decide_eq_true h2)]
    rfl
  have e3 : r_parse s = some (if (parseR s).2 = 0 then parseR s else (0, (parseR s).2)) := must_eq (by omega)
  have h3 := parse_agree s (by omega)
  rw [e3]
  rcases h3 with ⟨a1, a2⟩ | ⟨a1, a2⟩ | ⟨a1, a2⟩
  · rw [a2] at hs
    rw [a2, if_pos a1]
    obtain ⟨x, f, hpr⟩ : ∃ x f, parseR s = (x, f) := ⟨_, _, rfl⟩
    rw [hpr] at a1 hs ⊢
    simp only at a1 hs ⊢
    subst a1
    simp only [Option.bind_some]
    rw [if_neg (by simpa using h2), Same_self hs]
    rfl
  · rw [a2, if_neg (by omega), a1]
    simp only [Option.bind_some]
    rw [if_neg (by simpa using h2)]
    rfl
  · rw [a2, if_neg (by omega), a1]
    simp only [Option.bind_some]
    rw [if_neg (by simpa using h2)]
    rfl
end Go.Am
