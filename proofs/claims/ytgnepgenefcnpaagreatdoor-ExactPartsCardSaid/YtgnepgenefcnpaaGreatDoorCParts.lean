/- ExactParts: the walk of the law, and its plain law: it returns true for every input. No condition. -/
import Derived.Test.YtgnepgenefcnpaaGreatDoorBaH
set_option linter.unusedVariables false
set_option linter.unusedSimpArgs false
namespace Go.Am
open Go.RowKit
set_option maxRecDepth 100000
noncomputable section
def m_l_ExactParts (a1 : Int) (a2 : Int) (a3 : Int) : Option Bool := (m_l_Both a1 a2 a3).bind fun (v4, v5) => (q_int64 v4).bind fun (v7, v8) => (q_int64 v5).bind fun (v10, v11) => (if (v7 != v10) = true then some false else (if (!(v8 == v11)) = true then some false else (q_bits v4).bind fun v15 => (q_bits v5).bind fun v17 => (if (v15 != v17) = true then some false else (q_num v4).bind fun v20 => (r_num v5).bind fun v22 => (r_whole v22).bind fun v24 => (m_l_Same v20 v24).bind fun v26 => (if (!v26) = true then some false else (q_den v4).bind fun v29 => (r_den v5).bind fun v31 => (r_whole v31).bind fun v33 => (m_l_Same v29 v33).bind fun v35 => (if (!v35) = true then some false else (q_floor v4).bind fun v38 => (r_floor v5).bind fun v40 => (r_whole v40).bind fun v42 => (m_l_Same v38 v42).bind fun v44 => (if v44 = true then (q_ceil v4).bind fun v47 => (r_ceil v5).bind fun v49 => (r_whole v49).bind fun v51 => (m_l_Same v47 v51).bind fun v53 => (if v53 = true then (q_round v4).bind fun v56 => (r_round v5).bind fun v58 => (r_whole v58).bind fun v60 => (m_l_Same v56 v60).bind fun v62 => (if v62 = true then (m_l_awake).bind fun v65 => some v65 else some false) else some false) else some false))))))
theorem C_l_ExactParts {a1 : Int} {a2 : Int} {a3 : Int} {r67 : Bool} (h : m_l_ExactParts a1 a2 a3 = some r67) : CtrG PP 10 [] [D.agg ([D.int .i64 a1, D.int .i64 a2, D.int .u8 a3])] [] (D.bool r67) := by
  unfold m_l_ExactParts at h
  refine .of Go.Proofs.Tryz.func10 rfl (by kernel_rfl) rfl rfl rfl rfl rfl rfl (fun A w0 L b => ?_)
  show Ok PP _ [(0, D.agg ([D.int .i64 a1, D.int .i64 a2, D.int .u8 a3]))] [] _ _
  refine .reg (.bxA rfl rfl <| .asg rfl <| .nil) rfl ?_
  obtain ⟨⟨v4, v5⟩, e6, h⟩ := bind_some h
  refine .reg (.ldE ([D.int .i64 a1, D.int .i64 a2, D.int .u8 a3]) rfl rfl ly_amblelaw01_Num rfl rfl <| .callG (C_l_Both e6) ⟨rfl, trivial⟩ trivial trivial <| .mv rfl <| .ext rfl rfl <| .ext rfl rfl <| .alL (qC (0)) z_exact_Q ⟨zq1, zq2, zq3, trivial⟩ rfl <| .alL (rqC (0)) z_ambleref01_Q ⟨zr1, zr2, .refl _, zr4, trivial⟩ rfl <| .stE (qC (v4)) rfl rfl rfl ly_exact_Q rfl rfl rfl <| .stE (rqC (v5)) rfl rfl rfl ly_ambleref01_Q rfl rfl rfl <| .nil) rfl ?_
  obtain ⟨⟨v7, v8⟩, e9, h⟩ := bind_some h
  refine .reg (.ldE (qC (v4)) rfl rfl ly_exact_Q rfl rfl <| .callG (Q_int64 e9) ⟨rfl, trivial⟩ trivial trivial <| .mv rfl <| .ext rfl rfl <| .ext rfl rfl <| .asg rfl <| .asg rfl <| .nil) rfl ?_
  obtain ⟨⟨v10, v11⟩, e12, h⟩ := bind_some h
  refine .reg (.ldE (rqC (v5)) rfl rfl ly_ambleref01_Q rfl rfl <| .callG (R_int64 e12) ⟨rfl, trivial⟩ trivial trivial <| .mv rfl <| .ext rfl rfl <| .ext rfl rfl <| .asg rfl <| .asg rfl <| .nil) rfl ?_
  refine .sq ?_
  by_cases c13 : (v7 != v10) = true
  · replace h := ite_pos_some c13 h
    refine .regD hmix (.mv rfl <| .mv rfl <| .cm rfl rfl rfl <| .mv rfl <| .gNf rfl rfl rfl c13 <| .gNf rfl rfl rfl c13 <| .gNf rfl rfl rfl c13 <| .pkTb rfl c13 rfl <| .mv rfl <| .gNf rfl rfl rfl rfl <| .gNf rfl rfl rfl rfl <| .gNf rfl rfl rfl rfl <| .gNf rfl rfl rfl rfl <| .gNf rfl rfl rfl rfl <| .pkTb rfl rfl rfl <| .mv rfl <| .gNf rfl rfl rfl rfl <| .gNf rfl rfl rfl rfl <| .gNf rfl rfl rfl rfl <| .gNf rfl rfl rfl rfl <| .gNf rfl rfl rfl rfl <| .gNf rfl rfl rfl rfl <| .gNf rfl rfl rfl rfl <| .pkTb rfl rfl rfl <| .mv rfl <| .gNf rfl rfl rfl rfl <| .gNf rfl rfl rfl rfl <| .gNf rfl rfl rfl rfl <| .gNf rfl rfl rfl rfl <| .gNf rfl rfl rfl rfl <| .gNf rfl rfl rfl rfl <| .gNf rfl rfl rfl rfl <| .pkTb rfl rfl rfl <| .nil) rfl (by kernel_rfl) ?_
    refine .cTb rfl rfl ?_
    refine .reg (.asg rfl <| .nil) rfl ?_
    cases h
    refine .retG (fun _ _ hb => hb) rfl (.cons (.tmp rfl) .nil) (.refl _) trivial trivial
  · replace h := ite_neg_some c13 h
    by_cases c14 : (!(v8 == v11)) = true
    · replace h := ite_pos_some c14 h
      refine .regD hmix (.mv rfl <| .mv rfl <| .cm rfl rfl rfl <| .mv rfl <| .gYf rfl rfl rfl c13 <| .mv rfl <| .gYf rfl rfl rfl c13 <| .mv rfl <| .gYf rfl rfl rfl c13 <| .bc ib_bool rfl rfl rfl <| .pkFb rfl c13 rfl <| .mv rfl <| .gNf rfl rfl rfl c14 <| .gNf rfl rfl rfl c14 <| .gNf rfl rfl rfl c14 <| .gNf rfl rfl rfl c14 <| .gNf rfl rfl rfl c14 <| .pkTb rfl c14 rfl <| .mv rfl <| .gNf rfl rfl rfl rfl <| .gNf rfl rfl rfl rfl <| .gNf rfl rfl rfl rfl <| .gNf rfl rfl rfl rfl <| .gNf rfl rfl rfl rfl <| .gNf rfl rfl rfl rfl <| .gNf rfl rfl rfl rfl <| .pkTb rfl rfl rfl <| .mv rfl <| .gNf rfl rfl rfl rfl <| .gNf rfl rfl rfl rfl <| .gNf rfl rfl rfl rfl <| .gNf rfl rfl rfl rfl <| .gNf rfl rfl rfl rfl <| .gNf rfl rfl rfl rfl <| .gNf rfl rfl rfl rfl <| .pkTb rfl rfl rfl <| .nil) rfl (by kernel_rfl) ?_
      refine .cTb rfl rfl ?_
      refine .reg (.asg rfl <| .nil) rfl ?_
      cases h
      refine .retG (fun _ _ hb => hb) rfl (.cons (.tmp rfl) .nil) (.refl _) trivial trivial
    · replace h := ite_neg_some c14 h
      obtain ⟨v15, e16, h⟩ := bind_some h
      obtain ⟨v17, e18, h⟩ := bind_some h
      by_cases c19 : (v15 != v17) = true
      · replace h := ite_pos_some c19 h
        refine .regD hmix (.mv rfl <| .mv rfl <| .cm rfl rfl rfl <| .mv rfl <| .gYf rfl rfl rfl c13 <| .mv rfl <| .gYf rfl rfl rfl c13 <| .mv rfl <| .gYf rfl rfl rfl c13 <| .bc ib_bool rfl rfl rfl <| .pkFb rfl c13 rfl <| .mv rfl <| .gYf rfl rfl rfl c14 <| .ldE (qC (v4)) rfl rfl ly_exact_Q rfl rfl <| .gYf rfl rfl rfl c14 <| .callG (Q_bits e16) ⟨rfl, trivial⟩ trivial trivial <| .gYf rfl rfl rfl c14 <| .ldE (rqC (v5)) rfl rfl ly_ambleref01_Q rfl rfl <| .gYf rfl rfl rfl c14 <| .callG (R_bits e18) ⟨rfl, trivial⟩ trivial trivial <| .gYf rfl rfl rfl c14 <| .cm rfl rfl rfl <| .pkFb rfl c14 rfl <| .mv rfl <| .gNf rfl rfl rfl c19 <| .gNf rfl rfl rfl c19 <| .gNf rfl rfl rfl c19 <| .gNf rfl rfl rfl c19 <| .gNf rfl rfl rfl c19 <| .gNf rfl rfl rfl c19 <| .gNf rfl rfl rfl c19 <| .pkTb rfl c19 rfl <| .mv rfl <| .gNf rfl rfl rfl rfl <| .gNf rfl rfl rfl rfl <| .gNf rfl rfl rfl rfl <| .gNf rfl rfl rfl rfl <| .gNf rfl rfl rfl rfl <| .gNf rfl rfl rfl rfl <| .gNf rfl rfl rfl rfl <| .pkTb rfl rfl rfl <| .nil) rfl (by kernel_rfl) ?_
        refine .cTb rfl rfl ?_
        refine .reg (.asg rfl <| .nil) rfl ?_
        cases h
        refine .retG (fun _ _ hb => hb) rfl (.cons (.tmp rfl) .nil) (.refl _) trivial trivial
      · replace h := ite_neg_some c19 h
        obtain ⟨v20, e21, h⟩ := bind_some h
        obtain ⟨v22, e23, h⟩ := bind_some h
        obtain ⟨v24, e25, h⟩ := bind_some h
        obtain ⟨v26, e27, h⟩ := bind_some h
        by_cases c28 : (!v26) = true
        · replace h := ite_pos_some c28 h
          refine .regD hmix (.mv rfl <| .mv rfl <| .cm rfl rfl rfl <| .mv rfl <| .gYf rfl rfl rfl c13 <| .mv rfl <| .gYf rfl rfl rfl c13 <| .mv rfl <| .gYf rfl rfl rfl c13 <| .bc ib_bool rfl rfl rfl <| .pkFb rfl c13 rfl <| .mv rfl <| .gYf rfl rfl rfl c14 <| .ldE (qC (v4)) rfl rfl ly_exact_Q rfl rfl <| .gYf rfl rfl rfl c14 <| .callG (Q_bits e16) ⟨rfl, trivial⟩ trivial trivial <| .gYf rfl rfl rfl c14 <| .ldE (rqC (v5)) rfl rfl ly_ambleref01_Q rfl rfl <| .gYf rfl rfl rfl c14 <| .callG (R_bits e18) ⟨rfl, trivial⟩ trivial trivial <| .gYf rfl rfl rfl c14 <| .cm rfl rfl rfl <| .pkFb rfl c14 rfl <| .mv rfl <| .gYf rfl rfl rfl c19 <| .ldE (qC (v4)) rfl rfl ly_exact_Q rfl rfl <| .gYf rfl rfl rfl c19 <| .callG (Q_num e21) ⟨rfl, trivial⟩ trivial trivial <| .gYf rfl rfl rfl c19 <| .ldE (rqC (v5)) rfl rfl ly_ambleref01_Q rfl rfl <| .gYf rfl rfl rfl c19 <| .callG (R_num e23) ⟨rfl, trivial⟩ trivial trivial <| .gYf rfl rfl rfl c19 <| .callG (R_whole e25) ⟨rfl, trivial⟩ trivial trivial <| .gYf rfl rfl rfl c19 <| .callG (C_l_Same e27) ⟨rfl, rfl, trivial⟩ trivial trivial <| .gYf rfl rfl rfl c19 <| .not rfl <| .pkFb rfl c19 rfl <| .mv rfl <| .gNf rfl rfl rfl c28 <| .gNf rfl rfl rfl c28 <| .gNf rfl rfl rfl c28 <| .gNf rfl rfl rfl c28 <| .gNf rfl rfl rfl c28 <| .gNf rfl rfl rfl c28 <| .gNf rfl rfl rfl c28 <| .pkTb rfl c28 rfl <| .nil) rfl (by kernel_rfl) ?_
          refine .cTb rfl rfl ?_
          refine .reg (.asg rfl <| .nil) rfl ?_
          cases h
          refine .retG (fun _ _ hb => hb) rfl (.cons (.tmp rfl) .nil) (.refl _) trivial trivial
        · replace h := ite_neg_some c28 h
          obtain ⟨v29, e30, h⟩ := bind_some h
          obtain ⟨v31, e32, h⟩ := bind_some h
          obtain ⟨v33, e34, h⟩ := bind_some h
          obtain ⟨v35, e36, h⟩ := bind_some h
          refine .regD hmix (.mv rfl <| .mv rfl <| .cm rfl rfl rfl <| .mv rfl <| .gYf rfl rfl rfl c13 <| .mv rfl <| .gYf rfl rfl rfl c13 <| .mv rfl <| .gYf rfl rfl rfl c13 <| .bc ib_bool rfl rfl rfl <| .pkFb rfl c13 rfl <| .mv rfl <| .gYf rfl rfl rfl c14 <| .ldE (qC (v4)) rfl rfl ly_exact_Q rfl rfl <| .gYf rfl rfl rfl c14 <| .callG (Q_bits e16) ⟨rfl, trivial⟩ trivial trivial <| .gYf rfl rfl rfl c14 <| .ldE (rqC (v5)) rfl rfl ly_ambleref01_Q rfl rfl <| .gYf rfl rfl rfl c14 <| .callG (R_bits e18) ⟨rfl, trivial⟩ trivial trivial <| .gYf rfl rfl rfl c14 <| .cm rfl rfl rfl <| .pkFb rfl c14 rfl <| .mv rfl <| .gYf rfl rfl rfl c19 <| .ldE (qC (v4)) rfl rfl ly_exact_Q rfl rfl <| .gYf rfl rfl rfl c19 <| .callG (Q_num e21) ⟨rfl, trivial⟩ trivial trivial <| .gYf rfl rfl rfl c19 <| .ldE (rqC (v5)) rfl rfl ly_ambleref01_Q rfl rfl <| .gYf rfl rfl rfl c19 <| .callG (R_num e23) ⟨rfl, trivial⟩ trivial trivial <| .gYf rfl rfl rfl c19 <| .callG (R_whole e25) ⟨rfl, trivial⟩ trivial trivial <| .gYf rfl rfl rfl c19 <| .callG (C_l_Same e27) ⟨rfl, rfl, trivial⟩ trivial trivial <| .gYf rfl rfl rfl c19 <| .not rfl <| .pkFb rfl c19 rfl <| .mv rfl <| .gYf rfl rfl rfl c28 <| .ldE (qC (v4)) rfl rfl ly_exact_Q rfl rfl <| .gYf rfl rfl rfl c28 <| .callG (Q_den e30) ⟨rfl, trivial⟩ trivial trivial <| .gYf rfl rfl rfl c28 <| .ldE (rqC (v5)) rfl rfl ly_ambleref01_Q rfl rfl <| .gYf rfl rfl rfl c28 <| .callG (R_den e32) ⟨rfl, trivial⟩ trivial trivial <| .gYf rfl rfl rfl c28 <| .callG (R_whole e34) ⟨rfl, trivial⟩ trivial trivial <| .gYf rfl rfl rfl c28 <| .callG (C_l_Same e36) ⟨rfl, rfl, trivial⟩ trivial trivial <| .gYf rfl rfl rfl c28 <| .not rfl <| .pkFb rfl c28 rfl <| .nil) rfl (by kernel_rfl) ?_
          by_cases c37 : (!v35) = true
          · replace h := ite_pos_some c37 h
            refine .cTb rfl c37 ?_
            refine .reg (.asg rfl <| .nil) rfl ?_
            cases h
            refine .retG (fun _ _ hb => hb) rfl (.cons (.tmp rfl) .nil) (.refl _) trivial trivial
          · replace h := ite_neg_some c37 h
            refine .cFb rfl c37 ?_
            refine .skip (Ok.on ?_)
            obtain ⟨v38, e39, h⟩ := bind_some h
            obtain ⟨v40, e41, h⟩ := bind_some h
            obtain ⟨v42, e43, h⟩ := bind_some h
            obtain ⟨v44, e45, h⟩ := bind_some h
            by_cases c46 : v44 = true
            · replace h := ite_pos_some c46 h
              obtain ⟨v47, e48, h⟩ := bind_some h
              obtain ⟨v49, e50, h⟩ := bind_some h
              obtain ⟨v51, e52, h⟩ := bind_some h
              obtain ⟨v53, e54, h⟩ := bind_some h
              by_cases c55 : v53 = true
              · replace h := ite_pos_some c55 h
                obtain ⟨v56, e57, h⟩ := bind_some h
                obtain ⟨v58, e59, h⟩ := bind_some h
                obtain ⟨v60, e61, h⟩ := bind_some h
                obtain ⟨v62, e63, h⟩ := bind_some h
                by_cases c64 : v62 = true
                · replace h := ite_pos_some c64 h
                  obtain ⟨v65, e66, h⟩ := bind_some h
                  refine .regD hmix (.ldE (qC (v4)) rfl rfl ly_exact_Q rfl rfl <| .callG (Q_floor e39) ⟨rfl, trivial⟩ trivial trivial <| .ldE (rqC (v5)) rfl rfl ly_ambleref01_Q rfl rfl <| .callG (R_floor e41) ⟨rfl, trivial⟩ trivial trivial <| .callG (R_whole e43) ⟨rfl, trivial⟩ trivial trivial <| .callG (C_l_Same e45) ⟨rfl, rfl, trivial⟩ trivial trivial <| .mv rfl <| .gYt rfl rfl rfl c46 <| .ldE (qC (v4)) rfl rfl ly_exact_Q rfl rfl <| .gYt rfl rfl rfl c46 <| .callG (Q_ceil e48) ⟨rfl, trivial⟩ trivial trivial <| .gYt rfl rfl rfl c46 <| .ldE (rqC (v5)) rfl rfl ly_ambleref01_Q rfl rfl <| .gYt rfl rfl rfl c46 <| .callG (R_ceil e50) ⟨rfl, trivial⟩ trivial trivial <| .gYt rfl rfl rfl c46 <| .callG (R_whole e52) ⟨rfl, trivial⟩ trivial trivial <| .gYt rfl rfl rfl c46 <| .callG (C_l_Same e54) ⟨rfl, rfl, trivial⟩ trivial trivial <| .pkTb rfl c46 rfl <| .mv rfl <| .gYt rfl rfl rfl c55 <| .ldE (qC (v4)) rfl rfl ly_exact_Q rfl rfl <| .gYt rfl rfl rfl c55 <| .callG (Q_round e57) ⟨rfl, trivial⟩ trivial trivial <| .gYt rfl rfl rfl c55 <| .ldE (rqC (v5)) rfl rfl ly_ambleref01_Q rfl rfl <| .gYt rfl rfl rfl c55 <| .callG (R_round e59) ⟨rfl, trivial⟩ trivial trivial <| .gYt rfl rfl rfl c55 <| .callG (R_whole e61) ⟨rfl, trivial⟩ trivial trivial <| .gYt rfl rfl rfl c55 <| .callG (C_l_Same e63) ⟨rfl, rfl, trivial⟩ trivial trivial <| .pkTb rfl c55 rfl <| .mv rfl <| .gYt rfl rfl rfl c64 <| .callG (C_l_awake e66) trivial trivial trivial <| .pkTb rfl c64 rfl <| .asg rfl <| .nil) rfl (by kernel_rfl) ?_
                  cases h
                  refine .retG (fun _ _ hb => hb) rfl (.cons (.tmp rfl) .nil) (.refl _) trivial trivial
                · replace h := ite_neg_some c64 h
                  refine .regD hmix (.ldE (qC (v4)) rfl rfl ly_exact_Q rfl rfl <| .callG (Q_floor e39) ⟨rfl, trivial⟩ trivial trivial <| .ldE (rqC (v5)) rfl rfl ly_ambleref01_Q rfl rfl <| .callG (R_floor e41) ⟨rfl, trivial⟩ trivial trivial <| .callG (R_whole e43) ⟨rfl, trivial⟩ trivial trivial <| .callG (C_l_Same e45) ⟨rfl, rfl, trivial⟩ trivial trivial <| .mv rfl <| .gYt rfl rfl rfl c46 <| .ldE (qC (v4)) rfl rfl ly_exact_Q rfl rfl <| .gYt rfl rfl rfl c46 <| .callG (Q_ceil e48) ⟨rfl, trivial⟩ trivial trivial <| .gYt rfl rfl rfl c46 <| .ldE (rqC (v5)) rfl rfl ly_ambleref01_Q rfl rfl <| .gYt rfl rfl rfl c46 <| .callG (R_ceil e50) ⟨rfl, trivial⟩ trivial trivial <| .gYt rfl rfl rfl c46 <| .callG (R_whole e52) ⟨rfl, trivial⟩ trivial trivial <| .gYt rfl rfl rfl c46 <| .callG (C_l_Same e54) ⟨rfl, rfl, trivial⟩ trivial trivial <| .pkTb rfl c46 rfl <| .mv rfl <| .gYt rfl rfl rfl c55 <| .ldE (qC (v4)) rfl rfl ly_exact_Q rfl rfl <| .gYt rfl rfl rfl c55 <| .callG (Q_round e57) ⟨rfl, trivial⟩ trivial trivial <| .gYt rfl rfl rfl c55 <| .ldE (rqC (v5)) rfl rfl ly_ambleref01_Q rfl rfl <| .gYt rfl rfl rfl c55 <| .callG (R_round e59) ⟨rfl, trivial⟩ trivial trivial <| .gYt rfl rfl rfl c55 <| .callG (R_whole e61) ⟨rfl, trivial⟩ trivial trivial <| .gYt rfl rfl rfl c55 <| .callG (C_l_Same e63) ⟨rfl, rfl, trivial⟩ trivial trivial <| .pkTb rfl c55 rfl <| .mv rfl <| .gNt rfl rfl rfl c64 <| .pkFb rfl c64 rfl <| .asg rfl <| .nil) rfl (by kernel_rfl) ?_
                  cases h
                  refine .retG (fun _ _ hb => hb) rfl (.cons (.tmp rfl) .nil) (.refl _) trivial trivial
              · replace h := ite_neg_some c55 h
                refine .regD hmix (.ldE (qC (v4)) rfl rfl ly_exact_Q rfl rfl <| .callG (Q_floor e39) ⟨rfl, trivial⟩ trivial trivial <| .ldE (rqC (v5)) rfl rfl ly_ambleref01_Q rfl rfl <| .callG (R_floor e41) ⟨rfl, trivial⟩ trivial trivial <| .callG (R_whole e43) ⟨rfl, trivial⟩ trivial trivial <| .callG (C_l_Same e45) ⟨rfl, rfl, trivial⟩ trivial trivial <| .mv rfl <| .gYt rfl rfl rfl c46 <| .ldE (qC (v4)) rfl rfl ly_exact_Q rfl rfl <| .gYt rfl rfl rfl c46 <| .callG (Q_ceil e48) ⟨rfl, trivial⟩ trivial trivial <| .gYt rfl rfl rfl c46 <| .ldE (rqC (v5)) rfl rfl ly_ambleref01_Q rfl rfl <| .gYt rfl rfl rfl c46 <| .callG (R_ceil e50) ⟨rfl, trivial⟩ trivial trivial <| .gYt rfl rfl rfl c46 <| .callG (R_whole e52) ⟨rfl, trivial⟩ trivial trivial <| .gYt rfl rfl rfl c46 <| .callG (C_l_Same e54) ⟨rfl, rfl, trivial⟩ trivial trivial <| .pkTb rfl c46 rfl <| .mv rfl <| .gNt rfl rfl rfl c55 <| .gNt rfl rfl rfl c55 <| .gNt rfl rfl rfl c55 <| .gNt rfl rfl rfl c55 <| .gNt rfl rfl rfl c55 <| .gNt rfl rfl rfl c55 <| .pkFb rfl c55 rfl <| .mv rfl <| .gNt rfl rfl rfl (by decide) <| .pkFb rfl (by decide) rfl <| .asg rfl <| .nil) rfl (by kernel_rfl) ?_
                cases h
                refine .retG (fun _ _ hb => hb) rfl (.cons (.tmp rfl) .nil) (.refl _) trivial trivial
            · replace h := ite_neg_some c46 h
              refine .regD hmix (.ldE (qC (v4)) rfl rfl ly_exact_Q rfl rfl <| .callG (Q_floor e39) ⟨rfl, trivial⟩ trivial trivial <| .ldE (rqC (v5)) rfl rfl ly_ambleref01_Q rfl rfl <| .callG (R_floor e41) ⟨rfl, trivial⟩ trivial trivial <| .callG (R_whole e43) ⟨rfl, trivial⟩ trivial trivial <| .callG (C_l_Same e45) ⟨rfl, rfl, trivial⟩ trivial trivial <| .mv rfl <| .gNt rfl rfl rfl c46 <| .gNt rfl rfl rfl c46 <| .gNt rfl rfl rfl c46 <| .gNt rfl rfl rfl c46 <| .gNt rfl rfl rfl c46 <| .gNt rfl rfl rfl c46 <| .pkFb rfl c46 rfl <| .mv rfl <| .gNt rfl rfl rfl (by decide) <| .gNt rfl rfl rfl (by decide) <| .gNt rfl rfl rfl (by decide) <| .gNt rfl rfl rfl (by decide) <| .gNt rfl rfl rfl (by decide) <| .gNt rfl rfl rfl (by decide) <| .pkFb rfl (by decide) rfl <| .mv rfl <| .gNt rfl rfl rfl (by decide) <| .pkFb rfl (by decide) rfl <| .asg rfl <| .nil) rfl (by kernel_rfl) ?_
              cases h
              refine .retG (fun _ _ hb => hb) rfl (.cons (.tmp rfl) .nil) (.refl _) trivial trivial
end
end Go.Am
namespace Go.Am
theorem Parts_true (a1 a2 a3 : Int) (h1 : i64r a1) (h2 : i64r a2) (h3 : 0 ≤ a3 ∧ a3 ≤ 255) : m_l_ExactParts a1 a2 a3 = some true := by
  obtain ⟨e1, s1⟩ := Both_is a1 a2 a3 h1 h2 h3
  unfold m_l_ExactParts
  rw [e1]
  generalize bothX a1 a2 a3 = x at *
  haveI : Bd x 256 := ⟨s1⟩
  have q1 : qs' x := Nat.le_trans s1 (by omega)
  have eI : q_int64 x = some (if x.den = 1 ∧ i64r x.num then (x.num, true) else (0, false)) := must_eq q1
  have eB : q_bits x = some ((blen x.num.natAbs + blen x.den : Nat) : Int) := must_eq q1
  have f1 : r_floor x = some x.floor := must_eq q1
  have f2 : r_ceil x = some x.ceil := must_eq q1
  have f3 : r_round x = some (rnd x) := must_eq q1
  have hd : (((x.den : Nat) : Int) : Rat) = ((x.den : Nat) : Rat) := rfl
  simp only [Option.bind_some, eI, eB, q_num, r_num, r_whole, q_den_eq q1, r_den, q_floor_eq q1, q_ceil_eq q1, q_round_eq q1, f1, f2, f3, hd, Same_B, Nat.reduceAdd, Nat.reduceLeDiff, awake_true, bne_self_eq_false, beq_self_eq_true, Bool.not_true, Bool.false_eq_true, if_false, if_true]
end Go.Am
