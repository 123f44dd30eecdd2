/- ExactTexts: the walk of the law, and its plain law: it returns true for every input. No condition. -/
import Derived.Test.YtgnepgenefcnpaaGreatDoorBaH
set_option linter.unusedVariables false
set_option linter.unusedSimpArgs false
namespace Go.Am
open Go.RowKit
set_option maxRecDepth 100000
noncomputable section
def m_l_ExactTexts (a1 : Int) (a2 : Int) (a3 : Int) (a4 : Int) (a5 : Int) (a6 : Int) : Option Bool := (m_l_Both a1 a2 a3).bind fun (v7, v8) => (m_l_Both a4 a5 a6).bind fun (v10, v11) => (q_text v7).bind fun v13 => (q_parse v13).bind fun (v15, v16) => (if (v16 == 0) = true then (m_l_same v7 v15).bind fun v19 => (if v19 = true then (q_cmp v7 v10).bind fun v22 => (q_text v7).bind fun v24 => (q_text v10).bind fun v26 => (if ((v22 == 0) == (v24 == v26)) = true then (m_l_awake).bind fun v29 => some v29 else some false) else some false) else some false)
theorem C_l_ExactTexts {a1 : Int} {a2 : Int} {a3 : Int} {a4 : Int} {a5 : Int} {a6 : Int} {r31 : Bool} (h : m_l_ExactTexts a1 a2 a3 a4 a5 a6 = some r31) : CtrG PP 5 [] [D.agg ([D.int .i64 a1, D.int .i64 a2, D.int .u8 a3]), D.agg ([D.int .i64 a4, D.int .i64 a5, D.int .u8 a6])] [] (D.bool r31) := by
  unfold m_l_ExactTexts at h
  refine .of Go.Proofs.Tryz.func5 rfl (by kernel_rfl) rfl rfl rfl rfl rfl rfl (fun A w0 L b => ?_)
  show Ok PP _ [(0, D.agg ([D.int .i64 a1, D.int .i64 a2, D.int .u8 a3])), (1, D.agg ([D.int .i64 a4, D.int .i64 a5, D.int .u8 a6]))] [] _ _
  refine .reg (.bxA rfl rfl <| .bxA rfl rfl <| .asg rfl <| .nil) rfl ?_
  obtain ⟨⟨v7, v8⟩, e9, h⟩ := bind_some h
  refine .reg (.ldE ([D.int .i64 a1, D.int .i64 a2, D.int .u8 a3]) rfl rfl ly_amblelaw01_Num rfl rfl <| .callG (C_l_Both e9) ⟨rfl, trivial⟩ trivial trivial <| .mv rfl <| .ext rfl rfl <| .ext rfl rfl <| .alL (qC (0)) z_exact_Q ⟨zq1, zq2, zq3, trivial⟩ rfl <| .alL (rqC (0)) z_ambleref01_Q ⟨zr1, zr2, .refl _, zr4, trivial⟩ rfl <| .stE (qC (v7)) rfl rfl rfl ly_exact_Q rfl rfl rfl <| .stE (rqC (v8)) rfl rfl rfl ly_ambleref01_Q rfl rfl rfl <| .nil) rfl ?_
  obtain ⟨⟨v10, v11⟩, e12, h⟩ := bind_some h
  refine .reg (.ldE ([D.int .i64 a4, D.int .i64 a5, D.int .u8 a6]) rfl rfl ly_amblelaw01_Num rfl rfl <| .callG (C_l_Both e12) ⟨rfl, trivial⟩ trivial trivial <| .mv rfl <| .ext rfl rfl <| .ext rfl rfl <| .alL (qC (0)) z_exact_Q ⟨zq1, zq2, zq3, trivial⟩ rfl <| .alL (rqC (0)) z_ambleref01_Q ⟨zr1, zr2, .refl _, zr4, trivial⟩ rfl <| .stE (qC (v10)) rfl rfl rfl ly_exact_Q rfl rfl rfl <| .stE (rqC (v11)) rfl rfl rfl ly_ambleref01_Q rfl rfl rfl <| .nil) rfl ?_
  obtain ⟨v13, e14, h⟩ := bind_some h
  obtain ⟨⟨v15, v16⟩, e17, h⟩ := bind_some h
  refine .reg (.ldE (qC (v7)) rfl rfl ly_exact_Q rfl rfl <| .callG (Q_text e14) ⟨rfl, trivial⟩ trivial trivial <| .callG (Q_parse e17) ⟨rfl, trivial⟩ trivial trivial <| .mv rfl <| .ext rfl rfl <| .ext rfl rfl <| .alL (qC (0)) z_exact_Q ⟨zq1, zq2, zq3, trivial⟩ rfl <| .stE (qC (v15)) rfl rfl rfl ly_exact_Q rfl rfl rfl <| .asg rfl <| .nil) rfl ?_
  by_cases c18 : (v16 == 0) = true
  · replace h := ite_pos_some c18 h
    obtain ⟨v19, e20, h⟩ := bind_some h
    by_cases c21 : v19 = true
    · replace h := ite_pos_some c21 h
      obtain ⟨v22, e23, h⟩ := bind_some h
      obtain ⟨v24, e25, h⟩ := bind_some h
      obtain ⟨v26, e27, h⟩ := bind_some h
      by_cases c28 : ((v22 == 0) == (v24 == v26)) = true
      · replace h := ite_pos_some c28 h
        obtain ⟨v29, e30, h⟩ := bind_some h
        refine .regD hmix (.mv rfl <| .cm rfl rfl rfl <| .mv rfl <| .gYt rfl rfl rfl c18 <| .ldE (qC (v7)) rfl rfl ly_exact_Q rfl rfl <| .gYt rfl rfl rfl c18 <| .ldE (qC (v15)) rfl rfl ly_exact_Q rfl rfl <| .gYt rfl rfl rfl c18 <| .callG (C_l_same e20) ⟨rfl, rfl, trivial⟩ trivial trivial <| .pkTb rfl c18 rfl <| .mv rfl <| .gYt rfl rfl rfl c21 <| .ldE (qC (v7)) rfl rfl ly_exact_Q rfl rfl <| .gYt rfl rfl rfl c21 <| .ldE (qC (v10)) rfl rfl ly_exact_Q rfl rfl <| .gYt rfl rfl rfl c21 <| .callG (Q_cmp e23) ⟨rfl, rfl, trivial⟩ trivial trivial <| .gYt rfl rfl rfl c21 <| .cm rfl rfl rfl <| .gYt rfl rfl rfl c21 <| .ldE (qC (v7)) rfl rfl ly_exact_Q rfl rfl <| .gYt rfl rfl rfl c21 <| .callG (Q_text e25) ⟨rfl, trivial⟩ trivial trivial <| .gYt rfl rfl rfl c21 <| .ldE (qC (v10)) rfl rfl ly_exact_Q rfl rfl <| .gYt rfl rfl rfl c21 <| .callG (Q_text e27) ⟨rfl, trivial⟩ trivial trivial <| .gYt rfl rfl rfl c21 <| .teq rfl rfl <| .gYt rfl rfl rfl c21 <| .bc ib_bool rfl rfl rfl <| .pkTb rfl c21 rfl <| .mv rfl <| .gYt rfl rfl rfl c28 <| .callG (C_l_awake e30) trivial trivial trivial <| .pkTb rfl c28 rfl <| .asg rfl <| .nil) rfl (by kernel_rfl) ?_
        cases h
        refine .retG (fun _ _ hb => hb) rfl (.cons (.tmp rfl) .nil) (.refl _) trivial trivial
      · replace h := ite_neg_some c28 h
        refine .regD hmix (.mv rfl <| .cm rfl rfl rfl <| .mv rfl <| .gYt rfl rfl rfl c18 <| .ldE (qC (v7)) rfl rfl ly_exact_Q rfl rfl <| .gYt rfl rfl rfl c18 <| .ldE (qC (v15)) rfl rfl ly_exact_Q rfl rfl <| .gYt rfl rfl rfl c18 <| .callG (C_l_same e20) ⟨rfl, rfl, trivial⟩ trivial trivial <| .pkTb rfl c18 rfl <| .mv rfl <| .gYt rfl rfl rfl c21 <| .ldE (qC (v7)) rfl rfl ly_exact_Q rfl rfl <| .gYt rfl rfl rfl c21 <| .ldE (qC (v10)) rfl rfl ly_exact_Q rfl rfl <| .gYt rfl rfl rfl c21 <| .callG (Q_cmp e23) ⟨rfl, rfl, trivial⟩ trivial trivial <| .gYt rfl rfl rfl c21 <| .cm rfl rfl rfl <| .gYt rfl rfl rfl c21 <| .ldE (qC (v7)) rfl rfl ly_exact_Q rfl rfl <| .gYt rfl rfl rfl c21 <| .callG (Q_text e25) ⟨rfl, trivial⟩ trivial trivial <| .gYt rfl rfl rfl c21 <| .ldE (qC (v10)) rfl rfl ly_exact_Q rfl rfl <| .gYt rfl rfl rfl c21 <| .callG (Q_text e27) ⟨rfl, trivial⟩ trivial trivial <| .gYt rfl rfl rfl c21 <| .teq rfl rfl <| .gYt rfl rfl rfl c21 <| .bc ib_bool rfl rfl rfl <| .pkTb rfl c21 rfl <| .mv rfl <| .gNt rfl rfl rfl c28 <| .pkFb rfl c28 rfl <| .asg rfl <| .nil) rfl (by kernel_rfl) ?_
        cases h
        refine .retG (fun _ _ hb => hb) rfl (.cons (.tmp rfl) .nil) (.refl _) trivial trivial
    · replace h := ite_neg_some c21 h
      refine .regD hmix (.mv rfl <| .cm rfl rfl rfl <| .mv rfl <| .gYt rfl rfl rfl c18 <| .ldE (qC (v7)) rfl rfl ly_exact_Q rfl rfl <| .gYt rfl rfl rfl c18 <| .ldE (qC (v15)) rfl rfl ly_exact_Q rfl rfl <| .gYt rfl rfl rfl c18 <| .callG (C_l_same e20) ⟨rfl, rfl, trivial⟩ trivial trivial <| .pkTb rfl c18 rfl <| .mv rfl <| .gNt rfl rfl rfl c21 <| .gNt rfl rfl rfl c21 <| .gNt rfl rfl rfl c21 <| .gNt rfl rfl rfl c21 <| .gNt rfl rfl rfl c21 <| .gNt rfl rfl rfl c21 <| .gNt rfl rfl rfl c21 <| .gNt rfl rfl rfl c21 <| .gNt rfl rfl rfl c21 <| .gNt rfl rfl rfl c21 <| .pkFb rfl c21 rfl <| .mv rfl <| .gNt rfl rfl rfl (by decide) <| .pkFb rfl (by decide) rfl <| .asg rfl <| .nil) rfl (by kernel_rfl) ?_
      cases h
      refine .retG (fun _ _ hb => hb) rfl (.cons (.tmp rfl) .nil) (.refl _) trivial trivial
  · replace h := ite_neg_some c18 h
    refine .regD hmix (.mv rfl <| .cm rfl rfl rfl <| .mv rfl <| .gNt rfl rfl rfl c18 <| .gNt rfl rfl rfl c18 <| .gNt rfl rfl rfl c18 <| .pkFb rfl c18 rfl <| .mv rfl <| .gNt rfl rfl rfl (by decide) <| .gNt rfl rfl rfl (by decide) <| .gNt rfl rfl rfl (by decide) <| .gNt rfl rfl rfl (by decide) <| .gNt rfl rfl rfl (by decide) <| .gNt rfl rfl rfl (by decide) <| .gNt rfl rfl rfl (by decide) <| .gNt rfl rfl rfl (by decide) <| .gNt rfl rfl rfl (by decide) <| .gNt rfl rfl rfl (by decide) <| .pkFb rfl (by decide) rfl <| .mv rfl <| .gNt rfl rfl rfl (by decide) <| .pkFb rfl (by decide) rfl <| .asg rfl <| .nil) rfl (by kernel_rfl) ?_
    cases h
    refine .retG (fun _ _ hb => hb) rfl (.cons (.tmp rfl) .nil) (.refl _) trivial trivial
end
end Go.Am
namespace Go.Am
theorem Texts_true (a1 a2 a3 a4 a5 a6 : Int) (h1 : i64r a1) (h2 : i64r a2) (h3 : 0 ≤ a3 ∧ a3 ≤ 255) (h4 : i64r a4) (h5 : i64r a5) (h6 : 0 ≤ a6 ∧ a6 ≤ 255) : m_l_ExactTexts a1 a2 a3 a4 a5 a6 = some true := by
  obtain ⟨e1, s1⟩ := Both_is a1 a2 a3 h1 h2 h3
  obtain ⟨e2, s2⟩ := Both_is a4 a5 a6 h4 h5 h6
  unfold m_l_ExactTexts
  rw [e1, e2]
  generalize bothX a1 a2 a3 = x at *
  generalize bothX a4 a5 a6 = y at *
  have q1 : qs' x := Nat.le_trans s1 (by omega)
  have q2 : qs' y := Nat.le_trans s2 (by omega)
  have l1 := txt_len x 256 s1
  have p1 := parse_txt x (by omega)
  have e3 : q_parse (txt x) = some (x, 0) := by rw [← p1]; exact must_eq (by omega)
  simp only [Option.bind_some]
  rw [q_text_eq q1]
  simp only [Option.bind_some]
  rw [e3]
  simp only [Option.bind_some]
  rw [same_self q1, q_cmp_eq q1 q2, q_text_eq q2, awake_true]
  simp only [Option.bind_some, beq_self_eq_true, if_true]
  have e4 : (cmpq x y == 0) = (txt x == txt y) := by
    by_cases h : x = y
    · subst h; simp [cmpq_zero.2 rfl]
    · have n1 : ¬ cmpq x y = 0 := fun e => h (cmpq_zero.1 e)
      have n2 : ¬ txt x = txt y := fun e => h (txt_inj (by omega) e)
      rw [beq_eq_false_iff_ne.2 n1, beq_eq_false_iff_ne.2 n2]
  rw [e4]
  cases (txt x == txt y) <;> rfl
end Go.Am
