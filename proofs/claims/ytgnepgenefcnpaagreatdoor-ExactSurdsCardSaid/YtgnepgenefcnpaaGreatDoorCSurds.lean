/- ExactSurds: the walk of the law, and its plain law: it returns true for every input. No condition. -/
import Derived.Test.YtgnepgenefcnpaaGreatDoorBdH
set_option linter.unusedVariables false
set_option linter.unusedSimpArgs false
namespace Go.Am
open Go.RowKit
set_option maxRecDepth 100000
noncomputable section
def m_l_ExactSurds (a1 : Int) (a2 : Int) (a3 : Int) (a4 : Int) (a5 : Int) (a6 : Int) (a7 : Int) (a8 : Int) (a9 : Int) (a10 : Int) (a11 : Int) (a12 : Int) (a13 : Int) (a14 : Int) (a15 : Int) (a16 : Int) (a17 : Int) (a18 : Int) (a19 : Int) : Option Bool := (m_l_both a1 a2 a3 a4 a5 a6 a7 a8 a9).bind fun ((v20, v21, v22), (v23, v24, v25), v26) => (m_l_both a10 a11 a12 a13 a14 a15 a16 a17 a18).bind fun ((v28, v29, v30), (v31, v32, v33), v34) => (m_Surd_Sign v20 v21 v22).bind fun (v36, v37) => (m_Surd_Cmp v20 v21 v22 v28 v29 v30).bind fun (v39, v40) => (m_Surd_Normal v20 v21 v22).bind fun ((v42, v43, v44), v45) => (m_Surd_Enclose v20 v21 v22 a19).bind fun (v47, v48, v49) => (if (!v26) = true then (if (v37 == 8) = true then (if (v40 == 8) = true then (if (v45 == 8) = true then (if (v49 == 8) = true then (if (v36 == 0) = true then (if (v39 == 0) = true then (m_l_SameSurd v42 v43 v44 0 0 0).bind fun v58 => (if v58 = true then (q_sign v47).bind fun v61 => (if (v61 == 0) = true then (q_sign v48).bind fun v64 => (if (v64 == 0) = true then (m_l_awake).bind fun v67 => some v67 else some false) else some false) else some false) else some false) else some false) else some false) else some false) else some false) else some false) else (if (v37 != 0) = true then some false else (m_r_Surd_Sign v23 v24 v25).bind fun v70 => (if (v36 != v70) = true then some false else (if (v45 != 0) = true then some false else (r_normal v23 v24 v25).bind fun (v74, v75, v76) => (m_l_SameSurd v42 v43 v44 v74 v75 v76).bind fun v78 => (if (!v78) = true then some false else ((if (!v34) = true then (if (v40 != 8) = true then some (Ex.ret false) else (if (v39 != 0) = true then some (Ex.ret false) else some (Ex.brk ()))) else (if (v40 != 0) = true then some (Ex.ret false) else (m_r_CmpSurd v23 v24 v25 v31 v32 v33).bind fun v87 => (if (v39 != v87) = true then some (Ex.ret false) else some (Ex.brk ()))))).bind fun o81 => (match o81 with | Ex.brk () => (if (decide (a19 < 0)) = true then (if (v49 == 3) = true then (q_sign v47).bind fun v92 => (if (v92 == 0) = true then (q_sign v48).bind fun v95 => (if (v95 == 0) = true then (m_l_awake).bind fun v98 => some v98 else some false) else some false) else some false) else (if (decide (a19 > 64)) = true then (if (v49 == 3) = true then (q_sign v47).bind fun v102 => (if (v102 == 0) = true then (q_sign v48).bind fun v105 => (if (v105 == 0) = true then (m_l_awake).bind fun v108 => some v108 else some false) else some false) else some false) else (m_r_EncloseSurd v23 v24 v25 a19).bind fun (v110, v111) => (if (v49 == 0) = true then (m_l_Same v47 v110).bind fun v114 => (if v114 = true then (m_l_Same v48 v111).bind fun v117 => (if v117 = true then (m_l_awake).bind fun v120 => some v120 else some false) else some false) else some false))) | Ex.ret r122 => some r122))))))
theorem C_l_ExactSurds {a1 : Int} {a2 : Int} {a3 : Int} {a4 : Int} {a5 : Int} {a6 : Int} {a7 : Int} {a8 : Int} {a9 : Int} {a10 : Int} {a11 : Int} {a12 : Int} {a13 : Int} {a14 : Int} {a15 : Int} {a16 : Int} {a17 : Int} {a18 : Int} {a19 : Int} {r123 : Bool} (h : m_l_ExactSurds a1 a2 a3 a4 a5 a6 a7 a8 a9 a10 a11 a12 a13 a14 a15 a16 a17 a18 a19 = some r123) : CtrG PP 16 [] [D.agg ([D.int .i64 a1, D.int .i64 a2, D.int .u8 a3, D.int .i64 a4, D.int .i64 a5, D.int .u8 a6, D.int .i64 a7, D.int .i64 a8, D.int .u8 a9]), D.agg ([D.int .i64 a10, D.int .i64 a11, D.int .u8 a12, D.int .i64 a13, D.int .i64 a14, D.int .u8 a15, D.int .i64 a16, D.int .i64 a17, D.int .u8 a18]), D.int .i64 a19] [] (D.bool r123) := by
  unfold m_l_ExactSurds at h
  refine .of Go.Proofs.Tryz.func16 rfl (by kernel_rfl) rfl rfl rfl rfl rfl rfl (fun A w0 L b => ?_)
  show Ok PP _ [(0, D.agg ([D.int .i64 a1, D.int .i64 a2, D.int .u8 a3, D.int .i64 a4, D.int .i64 a5, D.int .u8 a6, D.int .i64 a7, D.int .i64 a8, D.int .u8 a9])), (1, D.agg ([D.int .i64 a10, D.int .i64 a11, D.int .u8 a12, D.int .i64 a13, D.int .i64 a14, D.int .u8 a15, D.int .i64 a16, D.int .i64 a17, D.int .u8 a18])), (2, D.int .i64 a19)] [] _ _
  refine .reg (.bxA rfl rfl <| .bxA rfl rfl <| .asg rfl <| .nil) rfl ?_
  obtain ⟨⟨⟨v20, v21, v22⟩, ⟨v23, v24, v25⟩, v26⟩, e27, h⟩ := bind_some h
  refine .reg (.ldE ([D.int .i64 a1, D.int .i64 a2, D.int .u8 a3, D.int .i64 a4, D.int .i64 a5, D.int .u8 a6, D.int .i64 a7, D.int .i64 a8, D.int .u8 a9]) rfl rfl ly_amblelaw01_Root rfl rfl <| .callG (C_l_both e27) ⟨rfl, trivial⟩ trivial trivial <| .mv rfl <| .ext rfl rfl <| .ext rfl rfl <| .ext rfl rfl <| .alL (qC (0) ++ qC (0) ++ qC (0)) z_exact_Surd ⟨zq1, zq2, zq3, zq1, zq2, zq3, zq1, zq2, zq3, trivial⟩ rfl <| .alL (rqC (0) ++ rqC (0) ++ rqC (0)) z_ambleref01_Surd ⟨zr1, zr2, .refl _, zr4, zr1, zr2, .refl _, zr4, zr1, zr2, .refl _, zr4, trivial⟩ rfl <| .stE (qC (v20) ++ qC (v21) ++ qC (v22)) rfl rfl rfl ly_exact_Surd rfl rfl rfl <| .stE (rqC (v23) ++ rqC (v24) ++ rqC (v25)) rfl rfl rfl ly_ambleref01_Surd rfl rfl rfl <| .asg rfl <| .nil) rfl ?_
  obtain ⟨⟨⟨v28, v29, v30⟩, ⟨v31, v32, v33⟩, v34⟩, e35, h⟩ := bind_some h
  refine .reg (.ldE ([D.int .i64 a10, D.int .i64 a11, D.int .u8 a12, D.int .i64 a13, D.int .i64 a14, D.int .u8 a15, D.int .i64 a16, D.int .i64 a17, D.int .u8 a18]) rfl rfl ly_amblelaw01_Root rfl rfl <| .callG (C_l_both e35) ⟨rfl, trivial⟩ trivial trivial <| .mv rfl <| .ext rfl rfl <| .ext rfl rfl <| .ext rfl rfl <| .alL (qC (0) ++ qC (0) ++ qC (0)) z_exact_Surd ⟨zq1, zq2, zq3, zq1, zq2, zq3, zq1, zq2, zq3, trivial⟩ rfl <| .alL (rqC (0) ++ rqC (0) ++ rqC (0)) z_ambleref01_Surd ⟨zr1, zr2, .refl _, zr4, zr1, zr2, .refl _, zr4, zr1, zr2, .refl _, zr4, trivial⟩ rfl <| .stE (qC (v28) ++ qC (v29) ++ qC (v30)) rfl rfl rfl ly_exact_Surd rfl rfl rfl <| .stE (rqC (v31) ++ rqC (v32) ++ rqC (v33)) rfl rfl rfl ly_ambleref01_Surd rfl rfl rfl <| .asg rfl <| .nil) rfl ?_
  obtain ⟨⟨v36, v37⟩, e38, h⟩ := bind_some h
  refine .reg (.ldE (qC (v20) ++ qC (v21) ++ qC (v22)) rfl rfl ly_exact_Surd rfl rfl <| .callG (C_Surd_Sign e38) ⟨rfl, trivial⟩ trivial trivial <| .mv rfl <| .ext rfl rfl <| .ext rfl rfl <| .asg rfl <| .asg rfl <| .nil) rfl ?_
  obtain ⟨⟨v39, v40⟩, e41, h⟩ := bind_some h
  refine .reg (.ldE (qC (v20) ++ qC (v21) ++ qC (v22)) rfl rfl ly_exact_Surd rfl rfl <| .ldE (qC (v28) ++ qC (v29) ++ qC (v30)) rfl rfl ly_exact_Surd rfl rfl <| .callG (C_Surd_Cmp e41) ⟨rfl, rfl, trivial⟩ trivial trivial <| .mv rfl <| .ext rfl rfl <| .ext rfl rfl <| .asg rfl <| .asg rfl <| .nil) rfl ?_
  obtain ⟨⟨⟨v42, v43, v44⟩, v45⟩, e46, h⟩ := bind_some h
  refine .reg (.ldE (qC (v20) ++ qC (v21) ++ qC (v22)) rfl rfl ly_exact_Surd rfl rfl <| .callG (C_Surd_Normal e46) ⟨rfl, trivial⟩ trivial trivial <| .mv rfl <| .ext rfl rfl <| .ext rfl rfl <| .alL (qC (0) ++ qC (0) ++ qC (0)) z_exact_Surd ⟨zq1, zq2, zq3, zq1, zq2, zq3, zq1, zq2, zq3, trivial⟩ rfl <| .stE (qC (v42) ++ qC (v43) ++ qC (v44)) rfl rfl rfl ly_exact_Surd rfl rfl rfl <| .asg rfl <| .nil) rfl ?_
  obtain ⟨⟨v47, v48, v49⟩, e50, h⟩ := bind_some h
  refine .reg (.ldE (qC (v20) ++ qC (v21) ++ qC (v22)) rfl rfl ly_exact_Surd rfl rfl <| .mv rfl <| .callG (C_Surd_Enclose e50) ⟨rfl, rfl, trivial⟩ trivial trivial <| .mv rfl <| .ext rfl rfl <| .ext rfl rfl <| .ext rfl rfl <| .alL (qC (0)) z_exact_Q ⟨zq1, zq2, zq3, trivial⟩ rfl <| .alL (qC (0)) z_exact_Q ⟨zq1, zq2, zq3, trivial⟩ rfl <| .stE (qC (v47)) rfl rfl rfl ly_exact_Q rfl rfl rfl <| .stE (qC (v48)) rfl rfl rfl ly_exact_Q rfl rfl rfl <| .asg rfl <| .nil) rfl ?_
  refine .sq ?_
  refine .reg (.mv rfl <| .not rfl <| .nil) rfl ?_
  by_cases c51 : (!v26) = true
  · replace h := ite_pos_some c51 h
    refine .cTb rfl c51 ?_
    by_cases c52 : (v37 == 8) = true
    · replace h := ite_pos_some c52 h
      by_cases c53 : (v40 == 8) = true
      · replace h := ite_pos_some c53 h
        by_cases c54 : (v45 == 8) = true
        · replace h := ite_pos_some c54 h
          by_cases c55 : (v49 == 8) = true
          · replace h := ite_pos_some c55 h
            by_cases c56 : (v36 == 0) = true
            · replace h := ite_pos_some c56 h
              by_cases c57 : (v39 == 0) = true
              · replace h := ite_pos_some c57 h
                obtain ⟨v58, e59, h⟩ := bind_some h
                by_cases c60 : v58 = true
                · replace h := ite_pos_some c60 h
                  obtain ⟨v61, e62, h⟩ := bind_some h
                  by_cases c63 : (v61 == 0) = true
                  · replace h := ite_pos_some c63 h
                    obtain ⟨v64, e65, h⟩ := bind_some h
                    by_cases c66 : (v64 == 0) = true
                    · replace h := ite_pos_some c66 h
                      obtain ⟨v67, e68, h⟩ := bind_some h
                      refine .reg (.mv rfl <| .cm rfl rfl rfl <| .mv rfl <| .gYt rfl rfl rfl c52 <| .mv rfl <| .gYt rfl rfl rfl c52 <| .cm rfl rfl rfl <| .pkTb rfl c52 rfl <| .mv rfl <| .gYt rfl rfl rfl c53 <| .mv rfl <| .gYt rfl rfl rfl c53 <| .cm rfl rfl rfl <| .pkTb rfl c53 rfl <| .mv rfl <| .gYt rfl rfl rfl c54 <| .mv rfl <| .gYt rfl rfl rfl c54 <| .cm rfl rfl rfl <| .pkTb rfl c54 rfl <| .mv rfl <| .gYt rfl rfl rfl c55 <| .mv rfl <| .gYt rfl rfl rfl c55 <| .cm rfl rfl rfl <| .pkTb rfl c55 rfl <| .mv rfl <| .gYt rfl rfl rfl c56 <| .mv rfl <| .gYt rfl rfl rfl c56 <| .cm rfl rfl rfl <| .pkTb rfl c56 rfl <| .mv rfl <| .gYt rfl rfl rfl c57 <| .ldE (qC (v42) ++ qC (v43) ++ qC (v44)) rfl rfl ly_exact_Surd rfl rfl <| .gYt rfl rfl rfl c57 <| .bdQ (rqC (0) ++ rqC (0) ++ rqC (0)) [] z_ambleref01_Surd pl_ambleref01_Surd trivial trivial ⟨zr1, zr2, .refl _, zr4, zr1, zr2, .refl _, zr4, zr1, zr2, .refl _, zr4, trivial⟩ <| .gYt rfl rfl rfl c57 <| .callG (C_l_SameSurd e59) ⟨rfl, rfl, trivial⟩ trivial trivial <| .pkTb rfl c57 rfl <| .mv rfl <| .gYt rfl rfl rfl c60 <| .ldE (qC (v47)) rfl rfl ly_exact_Q rfl rfl <| .gYt rfl rfl rfl c60 <| .callG (Q_sign e62) ⟨rfl, trivial⟩ trivial trivial <| .gYt rfl rfl rfl c60 <| .cm rfl rfl rfl <| .pkTb rfl c60 rfl <| .mv rfl <| .gYt rfl rfl rfl c63 <| .ldE (qC (v48)) rfl rfl ly_exact_Q rfl rfl <| .gYt rfl rfl rfl c63 <| .callG (Q_sign e65) ⟨rfl, trivial⟩ trivial trivial <| .gYt rfl rfl rfl c63 <| .cm rfl rfl rfl <| .pkTb rfl c63 rfl <| .mv rfl <| .gYt rfl rfl rfl c66 <| .callG (C_l_awake e68) trivial trivial trivial <| .pkTb rfl c66 rfl <| .asg rfl <| .nil) rfl ?_
                      cases h
                      refine .retG (fun _ _ hb => hb) rfl (.cons (.tmp rfl) .nil) (.refl _) trivial trivial
                    · replace h := ite_neg_some c66 h
                      refine .reg (.mv rfl <| .cm rfl rfl rfl <| .mv rfl <| .gYt rfl rfl rfl c52 <| .mv rfl <| .gYt rfl rfl rfl c52 <| .cm rfl rfl rfl <| .pkTb rfl c52 rfl <| .mv rfl <| .gYt rfl rfl rfl c53 <| .mv rfl <| .gYt rfl rfl rfl c53 <| .cm rfl rfl rfl <| .pkTb rfl c53 rfl <| .mv rfl <| .gYt rfl rfl rfl c54 <| .mv rfl <| .gYt rfl rfl rfl c54 <| .cm rfl rfl rfl <| .pkTb rfl c54 rfl <| .mv rfl <| .gYt rfl rfl rfl c55 <| .mv rfl <| .gYt rfl rfl rfl c55 <| .cm rfl rfl rfl <| .pkTb rfl c55 rfl <| .mv rfl <| .gYt rfl rfl rfl c56 <| .mv rfl <| .gYt rfl rfl rfl c56 <| .cm rfl rfl rfl <| .pkTb rfl c56 rfl <| .mv rfl <| .gYt rfl rfl rfl c57 <| .ldE (qC (v42) ++ qC (v43) ++ qC (v44)) rfl rfl ly_exact_Surd rfl rfl <| .gYt rfl rfl rfl c57 <| .bdQ (rqC (0) ++ rqC (0) ++ rqC (0)) [] z_ambleref01_Surd pl_ambleref01_Surd trivial trivial ⟨zr1, zr2, .refl _, zr4, zr1, zr2, .refl _, zr4, zr1, zr2, .refl _, zr4, trivial⟩ <| .gYt rfl rfl rfl c57 <| .callG (C_l_SameSurd e59) ⟨rfl, rfl, trivial⟩ trivial trivial <| .pkTb rfl c57 rfl <| .mv rfl <| .gYt rfl rfl rfl c60 <| .ldE (qC (v47)) rfl rfl ly_exact_Q rfl rfl <| .gYt rfl rfl rfl c60 <| .callG (Q_sign e62) ⟨rfl, trivial⟩ trivial trivial <| .gYt rfl rfl rfl c60 <| .cm rfl rfl rfl <| .pkTb rfl c60 rfl <| .mv rfl <| .gYt rfl rfl rfl c63 <| .ldE (qC (v48)) rfl rfl ly_exact_Q rfl rfl <| .gYt rfl rfl rfl c63 <| .callG (Q_sign e65) ⟨rfl, trivial⟩ trivial trivial <| .gYt rfl rfl rfl c63 <| .cm rfl rfl rfl <| .pkTb rfl c63 rfl <| .mv rfl <| .gNt rfl rfl rfl c66 <| .pkFb rfl c66 rfl <| .asg rfl <| .nil) rfl ?_
                      cases h
                      refine .retG (fun _ _ hb => hb) rfl (.cons (.tmp rfl) .nil) (.refl _) trivial trivial
                  · replace h := ite_neg_some c63 h
                    refine .reg (.mv rfl <| .cm rfl rfl rfl <| .mv rfl <| .gYt rfl rfl rfl c52 <| .mv rfl <| .gYt rfl rfl rfl c52 <| .cm rfl rfl rfl <| .pkTb rfl c52 rfl <| .mv rfl <| .gYt rfl rfl rfl c53 <| .mv rfl <| .gYt rfl rfl rfl c53 <| .cm rfl rfl rfl <| .pkTb rfl c53 rfl <| .mv rfl <| .gYt rfl rfl rfl c54 <| .mv rfl <| .gYt rfl rfl rfl c54 <| .cm rfl rfl rfl <| .pkTb rfl c54 rfl <| .mv rfl <| .gYt rfl rfl rfl c55 <| .mv rfl <| .gYt rfl rfl rfl c55 <| .cm rfl rfl rfl <| .pkTb rfl c55 rfl <| .mv rfl <| .gYt rfl rfl rfl c56 <| .mv rfl <| .gYt rfl rfl rfl c56 <| .cm rfl rfl rfl <| .pkTb rfl c56 rfl <| .mv rfl <| .gYt rfl rfl rfl c57 <| .ldE (qC (v42) ++ qC (v43) ++ qC (v44)) rfl rfl ly_exact_Surd rfl rfl <| .gYt rfl rfl rfl c57 <| .bdQ (rqC (0) ++ rqC (0) ++ rqC (0)) [] z_ambleref01_Surd pl_ambleref01_Surd trivial trivial ⟨zr1, zr2, .refl _, zr4, zr1, zr2, .refl _, zr4, zr1, zr2, .refl _, zr4, trivial⟩ <| .gYt rfl rfl rfl c57 <| .callG (C_l_SameSurd e59) ⟨rfl, rfl, trivial⟩ trivial trivial <| .pkTb rfl c57 rfl <| .mv rfl <| .gYt rfl rfl rfl c60 <| .ldE (qC (v47)) rfl rfl ly_exact_Q rfl rfl <| .gYt rfl rfl rfl c60 <| .callG (Q_sign e62) ⟨rfl, trivial⟩ trivial trivial <| .gYt rfl rfl rfl c60 <| .cm rfl rfl rfl <| .pkTb rfl c60 rfl <| .mv rfl <| .gNt rfl rfl rfl c63 <| .gNt rfl rfl rfl c63 <| .gNt rfl rfl rfl c63 <| .pkFb rfl c63 rfl <| .mv rfl <| .gNt rfl rfl rfl (by decide) <| .pkFb rfl (by decide) rfl <| .asg rfl <| .nil) rfl ?_
                    cases h
                    refine .retG (fun _ _ hb => hb) rfl (.cons (.tmp rfl) .nil) (.refl _) trivial trivial
                · replace h := ite_neg_some c60 h
                  refine .reg (.mv rfl <| .cm rfl rfl rfl <| .mv rfl <| .gYt rfl rfl rfl c52 <| .mv rfl <| .gYt rfl rfl rfl c52 <| .cm rfl rfl rfl <| .pkTb rfl c52 rfl <| .mv rfl <| .gYt rfl rfl rfl c53 <| .mv rfl <| .gYt rfl rfl rfl c53 <| .cm rfl rfl rfl <| .pkTb rfl c53 rfl <| .mv rfl <| .gYt rfl rfl rfl c54 <| .mv rfl <| .gYt rfl rfl rfl c54 <| .cm rfl rfl rfl <| .pkTb rfl c54 rfl <| .mv rfl <| .gYt rfl rfl rfl c55 <| .mv rfl <| .gYt rfl rfl rfl c55 <| .cm rfl rfl rfl <| .pkTb rfl c55 rfl <| .mv rfl <| .gYt rfl rfl rfl c56 <| .mv rfl <| .gYt rfl rfl rfl c56 <| .cm rfl rfl rfl <| .pkTb rfl c56 rfl <| .mv rfl <| .gYt rfl rfl rfl c57 <| .ldE (qC (v42) ++ qC (v43) ++ qC (v44)) rfl rfl ly_exact_Surd rfl rfl <| .gYt rfl rfl rfl c57 <| .bdQ (rqC (0) ++ rqC (0) ++ rqC (0)) [] z_ambleref01_Surd pl_ambleref01_Surd trivial trivial ⟨zr1, zr2, .refl _, zr4, zr1, zr2, .refl _, zr4, zr1, zr2, .refl _, zr4, trivial⟩ <| .gYt rfl rfl rfl c57 <| .callG (C_l_SameSurd e59) ⟨rfl, rfl, trivial⟩ trivial trivial <| .pkTb rfl c57 rfl <| .mv rfl <| .gNt rfl rfl rfl c60 <| .gNt rfl rfl rfl c60 <| .gNt rfl rfl rfl c60 <| .pkFb rfl c60 rfl <| .mv rfl <| .gNt rfl rfl rfl (by decide) <| .gNt rfl rfl rfl (by decide) <| .gNt rfl rfl rfl (by decide) <| .pkFb rfl (by decide) rfl <| .mv rfl <| .gNt rfl rfl rfl (by decide) <| .pkFb rfl (by decide) rfl <| .asg rfl <| .nil) rfl ?_
                  cases h
                  refine .retG (fun _ _ hb => hb) rfl (.cons (.tmp rfl) .nil) (.refl _) trivial trivial
              · replace h := ite_neg_some c57 h
                refine .reg (.mv rfl <| .cm rfl rfl rfl <| .mv rfl <| .gYt rfl rfl rfl c52 <| .mv rfl <| .gYt rfl rfl rfl c52 <| .cm rfl rfl rfl <| .pkTb rfl c52 rfl <| .mv rfl <| .gYt rfl rfl rfl c53 <| .mv rfl <| .gYt rfl rfl rfl c53 <| .cm rfl rfl rfl <| .pkTb rfl c53 rfl <| .mv rfl <| .gYt rfl rfl rfl c54 <| .mv rfl <| .gYt rfl rfl rfl c54 <| .cm rfl rfl rfl <| .pkTb rfl c54 rfl <| .mv rfl <| .gYt rfl rfl rfl c55 <| .mv rfl <| .gYt rfl rfl rfl c55 <| .cm rfl rfl rfl <| .pkTb rfl c55 rfl <| .mv rfl <| .gYt rfl rfl rfl c56 <| .mv rfl <| .gYt rfl rfl rfl c56 <| .cm rfl rfl rfl <| .pkTb rfl c56 rfl <| .mv rfl <| .gNt rfl rfl rfl c57 <| .gNt rfl rfl rfl c57 <| .gNt rfl rfl rfl c57 <| .pkFb rfl c57 rfl <| .mv rfl <| .gNt rfl rfl rfl (by decide) <| .gNt rfl rfl rfl (by decide) <| .gNt rfl rfl rfl (by decide) <| .pkFb rfl (by decide) rfl <| .mv rfl <| .gNt rfl rfl rfl (by decide) <| .gNt rfl rfl rfl (by decide) <| .gNt rfl rfl rfl (by decide) <| .pkFb rfl (by decide) rfl <| .mv rfl <| .gNt rfl rfl rfl (by decide) <| .pkFb rfl (by decide) rfl <| .asg rfl <| .nil) rfl ?_
                cases h
                refine .retG (fun _ _ hb => hb) rfl (.cons (.tmp rfl) .nil) (.refl _) trivial trivial
            · replace h := ite_neg_some c56 h
              refine .reg (.mv rfl <| .cm rfl rfl rfl <| .mv rfl <| .gYt rfl rfl rfl c52 <| .mv rfl <| .gYt rfl rfl rfl c52 <| .cm rfl rfl rfl <| .pkTb rfl c52 rfl <| .mv rfl <| .gYt rfl rfl rfl c53 <| .mv rfl <| .gYt rfl rfl rfl c53 <| .cm rfl rfl rfl <| .pkTb rfl c53 rfl <| .mv rfl <| .gYt rfl rfl rfl c54 <| .mv rfl <| .gYt rfl rfl rfl c54 <| .cm rfl rfl rfl <| .pkTb rfl c54 rfl <| .mv rfl <| .gYt rfl rfl rfl c55 <| .mv rfl <| .gYt rfl rfl rfl c55 <| .cm rfl rfl rfl <| .pkTb rfl c55 rfl <| .mv rfl <| .gNt rfl rfl rfl c56 <| .gNt rfl rfl rfl c56 <| .pkFb rfl c56 rfl <| .mv rfl <| .gNt rfl rfl rfl (by decide) <| .gNt rfl rfl rfl (by decide) <| .gNt rfl rfl rfl (by decide) <| .pkFb rfl (by decide) rfl <| .mv rfl <| .gNt rfl rfl rfl (by decide) <| .gNt rfl rfl rfl (by decide) <| .gNt rfl rfl rfl (by decide) <| .pkFb rfl (by decide) rfl <| .mv rfl <| .gNt rfl rfl rfl (by decide) <| .gNt rfl rfl rfl (by decide) <| .gNt rfl rfl rfl (by decide) <| .pkFb rfl (by decide) rfl <| .mv rfl <| .gNt rfl rfl rfl (by decide) <| .pkFb rfl (by decide) rfl <| .asg rfl <| .nil) rfl ?_
              cases h
              refine .retG (fun _ _ hb => hb) rfl (.cons (.tmp rfl) .nil) (.refl _) trivial trivial
          · replace h := ite_neg_some c55 h
            refine .reg (.mv rfl <| .cm rfl rfl rfl <| .mv rfl <| .gYt rfl rfl rfl c52 <| .mv rfl <| .gYt rfl rfl rfl c52 <| .cm rfl rfl rfl <| .pkTb rfl c52 rfl <| .mv rfl <| .gYt rfl rfl rfl c53 <| .mv rfl <| .gYt rfl rfl rfl c53 <| .cm rfl rfl rfl <| .pkTb rfl c53 rfl <| .mv rfl <| .gYt rfl rfl rfl c54 <| .mv rfl <| .gYt rfl rfl rfl c54 <| .cm rfl rfl rfl <| .pkTb rfl c54 rfl <| .mv rfl <| .gNt rfl rfl rfl c55 <| .gNt rfl rfl rfl c55 <| .pkFb rfl c55 rfl <| .mv rfl <| .gNt rfl rfl rfl (by decide) <| .gNt rfl rfl rfl (by decide) <| .pkFb rfl (by decide) rfl <| .mv rfl <| .gNt rfl rfl rfl (by decide) <| .gNt rfl rfl rfl (by decide) <| .gNt rfl rfl rfl (by decide) <| .pkFb rfl (by decide) rfl <| .mv rfl <| .gNt rfl rfl rfl (by decide) <| .gNt rfl rfl rfl (by decide) <| .gNt rfl rfl rfl (by decide) <| .pkFb rfl (by decide) rfl <| .mv rfl <| .gNt rfl rfl rfl (by decide) <| .gNt rfl rfl rfl (by decide) <| .gNt rfl rfl rfl (by decide) <| .pkFb rfl (by decide) rfl <| .mv rfl <| .gNt rfl rfl rfl (by decide) <| .pkFb rfl (by decide) rfl <| .asg rfl <| .nil) rfl ?_
            cases h
            refine .retG (fun _ _ hb => hb) rfl (.cons (.tmp rfl) .nil) (.refl _) trivial trivial
        · replace h := ite_neg_some c54 h
          refine .reg (.mv rfl <| .cm rfl rfl rfl <| .mv rfl <| .gYt rfl rfl rfl c52 <| .mv rfl <| .gYt rfl rfl rfl c52 <| .cm rfl rfl rfl <| .pkTb rfl c52 rfl <| .mv rfl <| .gYt rfl rfl rfl c53 <| .mv rfl <| .gYt rfl rfl rfl c53 <| .cm rfl rfl rfl <| .pkTb rfl c53 rfl <| .mv rfl <| .gNt rfl rfl rfl c54 <| .gNt rfl rfl rfl c54 <| .pkFb rfl c54 rfl <| .mv rfl <| .gNt rfl rfl rfl (by decide) <| .gNt rfl rfl rfl (by decide) <| .pkFb rfl (by decide) rfl <| .mv rfl <| .gNt rfl rfl rfl (by decide) <| .gNt rfl rfl rfl (by decide) <| .pkFb rfl (by decide) rfl <| .mv rfl <| .gNt rfl rfl rfl (by decide) <| .gNt rfl rfl rfl (by decide) <| .gNt rfl rfl rfl (by decide) <| .pkFb rfl (by decide) rfl <| .mv rfl <| .gNt rfl rfl rfl (by decide) <| .gNt rfl rfl rfl (by decide) <| .gNt rfl rfl rfl (by decide) <| .pkFb rfl (by decide) rfl <| .mv rfl <| .gNt rfl rfl rfl (by decide) <| .gNt rfl rfl rfl (by decide) <| .gNt rfl rfl rfl (by decide) <| .pkFb rfl (by decide) rfl <| .mv rfl <| .gNt rfl rfl rfl (by decide) <| .pkFb rfl (by decide) rfl <| .asg rfl <| .nil) rfl ?_
          cases h
          refine .retG (fun _ _ hb => hb) rfl (.cons (.tmp rfl) .nil) (.refl _) trivial trivial
      · replace h := ite_neg_some c53 h
        refine .reg (.mv rfl <| .cm rfl rfl rfl <| .mv rfl <| .gYt rfl rfl rfl c52 <| .mv rfl <| .gYt rfl rfl rfl c52 <| .cm rfl rfl rfl <| .pkTb rfl c52 rfl <| .mv rfl <| .gNt rfl rfl rfl c53 <| .gNt rfl rfl rfl c53 <| .pkFb rfl c53 rfl <| .mv rfl <| .gNt rfl rfl rfl (by decide) <| .gNt rfl rfl rfl (by decide) <| .pkFb rfl (by decide) rfl <| .mv rfl <| .gNt rfl rfl rfl (by decide) <| .gNt rfl rfl rfl (by decide) <| .pkFb rfl (by decide) rfl <| .mv rfl <| .gNt rfl rfl rfl (by decide) <| .gNt rfl rfl rfl (by decide) <| .pkFb rfl (by decide) rfl <| .mv rfl <| .gNt rfl rfl rfl (by decide) <| .gNt rfl rfl rfl (by decide) <| .gNt rfl rfl rfl (by decide) <| .pkFb rfl (by decide) rfl <| .mv rfl <| .gNt rfl rfl rfl (by decide) <| .gNt rfl rfl rfl (by decide) <| .gNt rfl rfl rfl (by decide) <| .pkFb rfl (by decide) rfl <| .mv rfl <| .gNt rfl rfl rfl (by decide) <| .gNt rfl rfl rfl (by decide) <| .gNt rfl rfl rfl (by decide) <| .pkFb rfl (by decide) rfl <| .mv rfl <| .gNt rfl rfl rfl (by decide) <| .pkFb rfl (by decide) rfl <| .asg rfl <| .nil) rfl ?_
        cases h
        refine .retG (fun _ _ hb => hb) rfl (.cons (.tmp rfl) .nil) (.refl _) trivial trivial
    · replace h := ite_neg_some c52 h
      refine .reg (.mv rfl <| .cm rfl rfl rfl <| .mv rfl <| .gNt rfl rfl rfl c52 <| .gNt rfl rfl rfl c52 <| .pkFb rfl c52 rfl <| .mv rfl <| .gNt rfl rfl rfl (by decide) <| .gNt rfl rfl rfl (by decide) <| .pkFb rfl (by decide) rfl <| .mv rfl <| .gNt rfl rfl rfl (by decide) <| .gNt rfl rfl rfl (by decide) <| .pkFb rfl (by decide) rfl <| .mv rfl <| .gNt rfl rfl rfl (by decide) <| .gNt rfl rfl rfl (by decide) <| .pkFb rfl (by decide) rfl <| .mv rfl <| .gNt rfl rfl rfl (by decide) <| .gNt rfl rfl rfl (by decide) <| .pkFb rfl (by decide) rfl <| .mv rfl <| .gNt rfl rfl rfl (by decide) <| .gNt rfl rfl rfl (by decide) <| .gNt rfl rfl rfl (by decide) <| .pkFb rfl (by decide) rfl <| .mv rfl <| .gNt rfl rfl rfl (by decide) <| .gNt rfl rfl rfl (by decide) <| .gNt rfl rfl rfl (by decide) <| .pkFb rfl (by decide) rfl <| .mv rfl <| .gNt rfl rfl rfl (by decide) <| .gNt rfl rfl rfl (by decide) <| .gNt rfl rfl rfl (by decide) <| .pkFb rfl (by decide) rfl <| .mv rfl <| .gNt rfl rfl rfl (by decide) <| .pkFb rfl (by decide) rfl <| .asg rfl <| .nil) rfl ?_
      cases h
      refine .retG (fun _ _ hb => hb) rfl (.cons (.tmp rfl) .nil) (.refl _) trivial trivial
  · replace h := ite_neg_some c51 h
    refine .cFb rfl c51 ?_
    refine .skip (Ok.on ?_)
    refine .sq ?_
    by_cases c69 : (v37 != 0) = true
    · replace h := ite_pos_some c69 h
      refine .regD hmix (.mv rfl <| .cm rfl rfl rfl <| .mv rfl <| .gNf rfl rfl rfl c69 <| .gNf rfl rfl rfl c69 <| .gNf rfl rfl rfl c69 <| .gNf rfl rfl rfl c69 <| .pkTb rfl c69 rfl <| .mv rfl <| .gNf rfl rfl rfl rfl <| .gNf rfl rfl rfl rfl <| .pkTb rfl rfl rfl <| .mv rfl <| .gNf rfl rfl rfl rfl <| .gNf rfl rfl rfl rfl <| .gNf rfl rfl rfl rfl <| .gNf rfl rfl rfl rfl <| .gNf rfl rfl rfl rfl <| .pkTb rfl rfl rfl <| .nil) rfl (by kernel_rfl) ?_
      refine .cTb rfl rfl ?_
      refine .reg (.asg rfl <| .nil) rfl ?_
      cases h
      refine .retG (fun _ _ hb => hb) rfl (.cons (.tmp rfl) .nil) (.refl _) trivial trivial
    · replace h := ite_neg_some c69 h
      obtain ⟨v70, e71, h⟩ := bind_some h
      by_cases c72 : (v36 != v70) = true
      · replace h := ite_pos_some c72 h
        refine .regD hmix (.mv rfl <| .cm rfl rfl rfl <| .mv rfl <| .gYf rfl rfl rfl c69 <| .mv rfl <| .gYf rfl rfl rfl c69 <| .ldE (rqC (v23) ++ rqC (v24) ++ rqC (v25)) rfl rfl ly_ambleref01_Surd rfl rfl <| .gYf rfl rfl rfl c69 <| .callG (C_r_Surd_Sign e71) ⟨rfl, trivial⟩ trivial trivial <| .gYf rfl rfl rfl c69 <| .cm rfl rfl rfl <| .pkFb rfl c69 rfl <| .mv rfl <| .gNf rfl rfl rfl c72 <| .gNf rfl rfl rfl c72 <| .pkTb rfl c72 rfl <| .mv rfl <| .gNf rfl rfl rfl rfl <| .gNf rfl rfl rfl rfl <| .gNf rfl rfl rfl rfl <| .gNf rfl rfl rfl rfl <| .gNf rfl rfl rfl rfl <| .pkTb rfl rfl rfl <| .nil) rfl (by kernel_rfl) ?_
        refine .cTb rfl rfl ?_
        refine .reg (.asg rfl <| .nil) rfl ?_
        cases h
        refine .retG (fun _ _ hb => hb) rfl (.cons (.tmp rfl) .nil) (.refl _) trivial trivial
      · replace h := ite_neg_some c72 h
        by_cases c73 : (v45 != 0) = true
        · replace h := ite_pos_some c73 h
          refine .regD hmix (.mv rfl <| .cm rfl rfl rfl <| .mv rfl <| .gYf rfl rfl rfl c69 <| .mv rfl <| .gYf rfl rfl rfl c69 <| .ldE (rqC (v23) ++ rqC (v24) ++ rqC (v25)) rfl rfl ly_ambleref01_Surd rfl rfl <| .gYf rfl rfl rfl c69 <| .callG (C_r_Surd_Sign e71) ⟨rfl, trivial⟩ trivial trivial <| .gYf rfl rfl rfl c69 <| .cm rfl rfl rfl <| .pkFb rfl c69 rfl <| .mv rfl <| .gYf rfl rfl rfl c72 <| .mv rfl <| .gYf rfl rfl rfl c72 <| .cm rfl rfl rfl <| .pkFb rfl c72 rfl <| .mv rfl <| .gNf rfl rfl rfl c73 <| .gNf rfl rfl rfl c73 <| .gNf rfl rfl rfl c73 <| .gNf rfl rfl rfl c73 <| .gNf rfl rfl rfl c73 <| .pkTb rfl c73 rfl <| .nil) rfl (by kernel_rfl) ?_
          refine .cTb rfl rfl ?_
          refine .reg (.asg rfl <| .nil) rfl ?_
          cases h
          refine .retG (fun _ _ hb => hb) rfl (.cons (.tmp rfl) .nil) (.refl _) trivial trivial
        · replace h := ite_neg_some c73 h
          obtain ⟨⟨v74, v75, v76⟩, e77, h⟩ := bind_some h
          obtain ⟨v78, e79, h⟩ := bind_some h
          refine .regD hmix (.mv rfl <| .cm rfl rfl rfl <| .mv rfl <| .gYf rfl rfl rfl c69 <| .mv rfl <| .gYf rfl rfl rfl c69 <| .ldE (rqC (v23) ++ rqC (v24) ++ rqC (v25)) rfl rfl ly_ambleref01_Surd rfl rfl <| .gYf rfl rfl rfl c69 <| .callG (C_r_Surd_Sign e71) ⟨rfl, trivial⟩ trivial trivial <| .gYf rfl rfl rfl c69 <| .cm rfl rfl rfl <| .pkFb rfl c69 rfl <| .mv rfl <| .gYf rfl rfl rfl c72 <| .mv rfl <| .gYf rfl rfl rfl c72 <| .cm rfl rfl rfl <| .pkFb rfl c72 rfl <| .mv rfl <| .gYf rfl rfl rfl c73 <| .ldE (qC (v42) ++ qC (v43) ++ qC (v44)) rfl rfl ly_exact_Surd rfl rfl <| .gYf rfl rfl rfl c73 <| .ldE (rqC (v23) ++ rqC (v24) ++ rqC (v25)) rfl rfl ly_ambleref01_Surd rfl rfl <| .gYf rfl rfl rfl c73 <| .callG (R_normal e77) ⟨rfl, trivial⟩ trivial trivial <| .gYf rfl rfl rfl c73 <| .callG (C_l_SameSurd e79) ⟨rfl, rfl, trivial⟩ trivial trivial <| .gYf rfl rfl rfl c73 <| .not rfl <| .pkFb rfl c73 rfl <| .nil) rfl (by kernel_rfl) ?_
          by_cases c80 : (!v78) = true
          · replace h := ite_pos_some c80 h
            refine .cTb rfl c80 ?_
            refine .reg (.asg rfl <| .nil) rfl ?_
            cases h
            refine .retG (fun _ _ hb => hb) rfl (.cons (.tmp rfl) .nil) (.refl _) trivial trivial
          · replace h := ite_neg_some c80 h
            refine .cFb rfl c80 ?_
            refine .skip (Ok.on ?_)
            obtain ⟨o81, hp82, h⟩ := bind_some h
            refine .cutX (fun i => o81 = Ex.brk i) (fun (i : Unit) => [(2, D.int .i64 a19), (8, D.ref 8 0), (19, D.ref 19 0), (20, D.ref 20 0), (21, D.int .i64 v49)]) (fun (i : Unit) => [(8, Hp.box 128 (rqC (v23) ++ rqC (v24) ++ rqC (v25))), (19, Hp.box 28 (qC (v47))), (20, Hp.box 28 (qC (v48)))]) ?_ ?_
            · have ho1 := h
              clear h
              have h := hp82
              clear hp82
              refine .reg (.mv rfl <| .not rfl <| .nil) rfl ?_
              by_cases c83 : (!v34) = true
              · replace h := ite_pos_some c83 h
                refine .cTb rfl c83 ?_
                by_cases c84 : (v40 != 8) = true
                · replace h := ite_pos_some c84 h
                  refine .reg (.mv rfl <| .cm rfl rfl rfl <| .mv rfl <| .gNf rfl rfl rfl c84 <| .gNf rfl rfl rfl c84 <| .pkTb rfl c84 rfl <| .nil) rfl ?_
                  refine .cTb rfl rfl ?_
                  refine .reg (.asg rfl <| .nil) rfl ?_
                  cases h
                  have h := ho1
                  clear ho1
                  cases h
                  refine .retG (fun _ _ hb => hb) rfl (.cons (.tmp rfl) .nil) (.refl _) trivial trivial
                · replace h := ite_neg_some c84 h
                  refine .reg (.mv rfl <| .cm rfl rfl rfl <| .mv rfl <| .gYf rfl rfl rfl c84 <| .mv rfl <| .gYf rfl rfl rfl c84 <| .cm rfl rfl rfl <| .pkFb rfl c84 rfl <| .nil) rfl ?_
                  by_cases c85 : (v39 != 0) = true
                  · replace h := ite_pos_some c85 h
                    refine .cTb rfl c85 ?_
                    refine .reg (.asg rfl <| .nil) rfl ?_
                    cases h
                    have h := ho1
                    clear ho1
                    cases h
                    refine .retG (fun _ _ hb => hb) rfl (.cons (.tmp rfl) .nil) (.refl _) trivial trivial
                  · replace h := ite_neg_some c85 h
                    refine .cFb rfl c85 ?_
                    refine .skip (fun _ _ hs => ⟨(), (Option.some.inj h).symm, hs.sub ⟨⟨_, rfl, .refl _⟩, ⟨_, rfl, .refl _⟩, ⟨_, rfl, .refl _⟩, ⟨_, rfl, .refl _⟩, ⟨_, rfl, .refl _⟩, trivial⟩ ⟨⟨_, rfl, .refl _⟩, ⟨_, rfl, .refl _⟩, ⟨_, rfl, .refl _⟩, trivial⟩ rfl rfl⟩)
              · replace h := ite_neg_some c83 h
                refine .cFb rfl c83 ?_
                by_cases c86 : (v40 != 0) = true
                · replace h := ite_pos_some c86 h
                  refine .reg (.mv rfl <| .cm rfl rfl rfl <| .mv rfl <| .gNf rfl rfl rfl c86 <| .gNf rfl rfl rfl c86 <| .gNf rfl rfl rfl c86 <| .gNf rfl rfl rfl c86 <| .gNf rfl rfl rfl c86 <| .pkTb rfl c86 rfl <| .nil) rfl ?_
                  refine .cTb rfl rfl ?_
                  refine .reg (.asg rfl <| .nil) rfl ?_
                  cases h
                  have h := ho1
                  clear ho1
                  cases h
                  refine .retG (fun _ _ hb => hb) rfl (.cons (.tmp rfl) .nil) (.refl _) trivial trivial
                · replace h := ite_neg_some c86 h
                  obtain ⟨v87, e88, h⟩ := bind_some h
                  refine .reg (.mv rfl <| .cm rfl rfl rfl <| .mv rfl <| .gYf rfl rfl rfl c86 <| .mv rfl <| .gYf rfl rfl rfl c86 <| .ldE (rqC (v23) ++ rqC (v24) ++ rqC (v25)) rfl rfl ly_ambleref01_Surd rfl rfl <| .gYf rfl rfl rfl c86 <| .ldE (rqC (v31) ++ rqC (v32) ++ rqC (v33)) rfl rfl ly_ambleref01_Surd rfl rfl <| .gYf rfl rfl rfl c86 <| .callG (C_r_CmpSurd e88) ⟨rfl, rfl, trivial⟩ trivial trivial <| .gYf rfl rfl rfl c86 <| .cm rfl rfl rfl <| .pkFb rfl c86 rfl <| .nil) rfl ?_
                  by_cases c89 : (v39 != v87) = true
                  · replace h := ite_pos_some c89 h
                    refine .cTb rfl c89 ?_
                    refine .reg (.asg rfl <| .nil) rfl ?_
                    cases h
                    have h := ho1
                    clear ho1
                    cases h
                    refine .retG (fun _ _ hb => hb) rfl (.cons (.tmp rfl) .nil) (.refl _) trivial trivial
                  · replace h := ite_neg_some c89 h
                    refine .cFb rfl c89 ?_
                    refine .skip (fun _ _ hs => ⟨(), (Option.some.inj h).symm, hs.sub ⟨⟨_, rfl, .refl _⟩, ⟨_, rfl, .refl _⟩, ⟨_, rfl, .refl _⟩, ⟨_, rfl, .refl _⟩, ⟨_, rfl, .refl _⟩, trivial⟩ ⟨⟨_, rfl, .refl _⟩, ⟨_, rfl, .refl _⟩, ⟨_, rfl, .refl _⟩, trivial⟩ rfl rfl⟩)
            · rintro ⟨⟩ rfl
              show Ok PP _ [(2, D.int .i64 a19), (8, D.ref 8 0), (19, D.ref 19 0), (20, D.ref 20 0), (21, D.int .i64 v49)] [(8, Hp.box 128 (rqC (v23) ++ rqC (v24) ++ rqC (v25))), (19, Hp.box 28 (qC (v47))), (20, Hp.box 28 (qC (v48)))] _ _
              refine .sq ?_
              by_cases c90 : (decide (a19 < 0)) = true
              · replace h := ite_pos_some c90 h
                refine .reg (.mv rfl <| .cm rfl rfl rfl <| .mv rfl <| .gNf rfl rfl rfl c90 <| .gNf rfl rfl rfl c90 <| .pkTb rfl c90 rfl <| .nil) rfl ?_
                refine .cTb rfl rfl ?_
                by_cases c91 : (v49 == 3) = true
                · replace h := ite_pos_some c91 h
                  obtain ⟨v92, e93, h⟩ := bind_some h
                  by_cases c94 : (v92 == 0) = true
                  · replace h := ite_pos_some c94 h
                    obtain ⟨v95, e96, h⟩ := bind_some h
                    by_cases c97 : (v95 == 0) = true
                    · replace h := ite_pos_some c97 h
                      obtain ⟨v98, e99, h⟩ := bind_some h
                      refine .reg (.mv rfl <| .cm rfl rfl rfl <| .mv rfl <| .gYt rfl rfl rfl c91 <| .ldE (qC (v47)) rfl rfl ly_exact_Q rfl rfl <| .gYt rfl rfl rfl c91 <| .callG (Q_sign e93) ⟨rfl, trivial⟩ trivial trivial <| .gYt rfl rfl rfl c91 <| .cm rfl rfl rfl <| .pkTb rfl c91 rfl <| .mv rfl <| .gYt rfl rfl rfl c94 <| .ldE (qC (v48)) rfl rfl ly_exact_Q rfl rfl <| .gYt rfl rfl rfl c94 <| .callG (Q_sign e96) ⟨rfl, trivial⟩ trivial trivial <| .gYt rfl rfl rfl c94 <| .cm rfl rfl rfl <| .pkTb rfl c94 rfl <| .mv rfl <| .gYt rfl rfl rfl c97 <| .callG (C_l_awake e99) trivial trivial trivial <| .pkTb rfl c97 rfl <| .asg rfl <| .nil) rfl ?_
                      cases h
                      refine .retG (fun _ _ hb => hb) rfl (.cons (.tmp rfl) .nil) (.refl _) trivial trivial
                    · replace h := ite_neg_some c97 h
                      refine .reg (.mv rfl <| .cm rfl rfl rfl <| .mv rfl <| .gYt rfl rfl rfl c91 <| .ldE (qC (v47)) rfl rfl ly_exact_Q rfl rfl <| .gYt rfl rfl rfl c91 <| .callG (Q_sign e93) ⟨rfl, trivial⟩ trivial trivial <| .gYt rfl rfl rfl c91 <| .cm rfl rfl rfl <| .pkTb rfl c91 rfl <| .mv rfl <| .gYt rfl rfl rfl c94 <| .ldE (qC (v48)) rfl rfl ly_exact_Q rfl rfl <| .gYt rfl rfl rfl c94 <| .callG (Q_sign e96) ⟨rfl, trivial⟩ trivial trivial <| .gYt rfl rfl rfl c94 <| .cm rfl rfl rfl <| .pkTb rfl c94 rfl <| .mv rfl <| .gNt rfl rfl rfl c97 <| .pkFb rfl c97 rfl <| .asg rfl <| .nil) rfl ?_
                      cases h
                      refine .retG (fun _ _ hb => hb) rfl (.cons (.tmp rfl) .nil) (.refl _) trivial trivial
                  · replace h := ite_neg_some c94 h
                    refine .reg (.mv rfl <| .cm rfl rfl rfl <| .mv rfl <| .gYt rfl rfl rfl c91 <| .ldE (qC (v47)) rfl rfl ly_exact_Q rfl rfl <| .gYt rfl rfl rfl c91 <| .callG (Q_sign e93) ⟨rfl, trivial⟩ trivial trivial <| .gYt rfl rfl rfl c91 <| .cm rfl rfl rfl <| .pkTb rfl c91 rfl <| .mv rfl <| .gNt rfl rfl rfl c94 <| .gNt rfl rfl rfl c94 <| .gNt rfl rfl rfl c94 <| .pkFb rfl c94 rfl <| .mv rfl <| .gNt rfl rfl rfl (by decide) <| .pkFb rfl (by decide) rfl <| .asg rfl <| .nil) rfl ?_
                    cases h
                    refine .retG (fun _ _ hb => hb) rfl (.cons (.tmp rfl) .nil) (.refl _) trivial trivial
                · replace h := ite_neg_some c91 h
                  refine .reg (.mv rfl <| .cm rfl rfl rfl <| .mv rfl <| .gNt rfl rfl rfl c91 <| .gNt rfl rfl rfl c91 <| .gNt rfl rfl rfl c91 <| .pkFb rfl c91 rfl <| .mv rfl <| .gNt rfl rfl rfl (by decide) <| .gNt rfl rfl rfl (by decide) <| .gNt rfl rfl rfl (by decide) <| .pkFb rfl (by decide) rfl <| .mv rfl <| .gNt rfl rfl rfl (by decide) <| .pkFb rfl (by decide) rfl <| .asg rfl <| .nil) rfl ?_
                  cases h
                  refine .retG (fun _ _ hb => hb) rfl (.cons (.tmp rfl) .nil) (.refl _) trivial trivial
              · replace h := ite_neg_some c90 h
                refine .reg (.mv rfl <| .cm rfl rfl rfl <| .mv rfl <| .gYf rfl rfl rfl c90 <| .mv rfl <| .gYf rfl rfl rfl c90 <| .cm rfl rfl rfl <| .pkFb rfl c90 rfl <| .nil) rfl ?_
                by_cases c100 : (decide (a19 > 64)) = true
                · replace h := ite_pos_some c100 h
                  refine .cTb rfl c100 ?_
                  by_cases c101 : (v49 == 3) = true
                  · replace h := ite_pos_some c101 h
                    obtain ⟨v102, e103, h⟩ := bind_some h
                    by_cases c104 : (v102 == 0) = true
                    · replace h := ite_pos_some c104 h
                      obtain ⟨v105, e106, h⟩ := bind_some h
                      by_cases c107 : (v105 == 0) = true
                      · replace h := ite_pos_some c107 h
                        obtain ⟨v108, e109, h⟩ := bind_some h
                        refine .reg (.mv rfl <| .cm rfl rfl rfl <| .mv rfl <| .gYt rfl rfl rfl c101 <| .ldE (qC (v47)) rfl rfl ly_exact_Q rfl rfl <| .gYt rfl rfl rfl c101 <| .callG (Q_sign e103) ⟨rfl, trivial⟩ trivial trivial <| .gYt rfl rfl rfl c101 <| .cm rfl rfl rfl <| .pkTb rfl c101 rfl <| .mv rfl <| .gYt rfl rfl rfl c104 <| .ldE (qC (v48)) rfl rfl ly_exact_Q rfl rfl <| .gYt rfl rfl rfl c104 <| .callG (Q_sign e106) ⟨rfl, trivial⟩ trivial trivial <| .gYt rfl rfl rfl c104 <| .cm rfl rfl rfl <| .pkTb rfl c104 rfl <| .mv rfl <| .gYt rfl rfl rfl c107 <| .callG (C_l_awake e109) trivial trivial trivial <| .pkTb rfl c107 rfl <| .asg rfl <| .nil) rfl ?_
                        cases h
                        refine .retG (fun _ _ hb => hb) rfl (.cons (.tmp rfl) .nil) (.refl _) trivial trivial
                      · replace h := ite_neg_some c107 h
                        refine .reg (.mv rfl <| .cm rfl rfl rfl <| .mv rfl <| .gYt rfl rfl rfl c101 <| .ldE (qC (v47)) rfl rfl ly_exact_Q rfl rfl <| .gYt rfl rfl rfl c101 <| .callG (Q_sign e103) ⟨rfl, trivial⟩ trivial trivial <| .gYt rfl rfl rfl c101 <| .cm rfl rfl rfl <| .pkTb rfl c101 rfl <| .mv rfl <| .gYt rfl rfl rfl c104 <| .ldE (qC (v48)) rfl rfl ly_exact_Q rfl rfl <| .gYt rfl rfl rfl c104 <| .callG (Q_sign e106) ⟨rfl, trivial⟩ trivial trivial <| .gYt rfl rfl rfl c104 <| .cm rfl rfl rfl <| .pkTb rfl c104 rfl <| .mv rfl <| .gNt rfl rfl rfl c107 <| .pkFb rfl c107 rfl <| .asg rfl <| .nil) rfl ?_
                        cases h
                        refine .retG (fun _ _ hb => hb) rfl (.cons (.tmp rfl) .nil) (.refl _) trivial trivial
                    · replace h := ite_neg_some c104 h
                      refine .reg (.mv rfl <| .cm rfl rfl rfl <| .mv rfl <| .gYt rfl rfl rfl c101 <| .ldE (qC (v47)) rfl rfl ly_exact_Q rfl rfl <| .gYt rfl rfl rfl c101 <| .callG (Q_sign e103) ⟨rfl, trivial⟩ trivial trivial <| .gYt rfl rfl rfl c101 <| .cm rfl rfl rfl <| .pkTb rfl c101 rfl <| .mv rfl <| .gNt rfl rfl rfl c104 <| .gNt rfl rfl rfl c104 <| .gNt rfl rfl rfl c104 <| .pkFb rfl c104 rfl <| .mv rfl <| .gNt rfl rfl rfl (by decide) <| .pkFb rfl (by decide) rfl <| .asg rfl <| .nil) rfl ?_
                      cases h
                      refine .retG (fun _ _ hb => hb) rfl (.cons (.tmp rfl) .nil) (.refl _) trivial trivial
                  · replace h := ite_neg_some c101 h
                    refine .reg (.mv rfl <| .cm rfl rfl rfl <| .mv rfl <| .gNt rfl rfl rfl c101 <| .gNt rfl rfl rfl c101 <| .gNt rfl rfl rfl c101 <| .pkFb rfl c101 rfl <| .mv rfl <| .gNt rfl rfl rfl (by decide) <| .gNt rfl rfl rfl (by decide) <| .gNt rfl rfl rfl (by decide) <| .pkFb rfl (by decide) rfl <| .mv rfl <| .gNt rfl rfl rfl (by decide) <| .pkFb rfl (by decide) rfl <| .asg rfl <| .nil) rfl ?_
                    cases h
                    refine .retG (fun _ _ hb => hb) rfl (.cons (.tmp rfl) .nil) (.refl _) trivial trivial
                · replace h := ite_neg_some c100 h
                  refine .cFb rfl c100 ?_
                  refine .skip (Ok.on ?_)
                  obtain ⟨⟨v110, v111⟩, e112, h⟩ := bind_some h
                  refine .reg (.ldE (rqC (v23) ++ rqC (v24) ++ rqC (v25)) rfl rfl ly_ambleref01_Surd rfl rfl <| .mv rfl <| .callG (C_r_EncloseSurd e112) ⟨rfl, rfl, trivial⟩ trivial trivial <| .mv rfl <| .ext rfl rfl <| .ext rfl rfl <| .alL (rqC (0)) z_ambleref01_Q ⟨zr1, zr2, .refl _, zr4, trivial⟩ rfl <| .alL (rqC (0)) z_ambleref01_Q ⟨zr1, zr2, .refl _, zr4, trivial⟩ rfl <| .stE (rqC (v110)) rfl rfl rfl ly_ambleref01_Q rfl rfl rfl <| .stE (rqC (v111)) rfl rfl rfl ly_ambleref01_Q rfl rfl rfl <| .nil) rfl ?_
                  by_cases c113 : (v49 == 0) = true
                  · replace h := ite_pos_some c113 h
                    obtain ⟨v114, e115, h⟩ := bind_some h
                    by_cases c116 : v114 = true
                    · replace h := ite_pos_some c116 h
                      obtain ⟨v117, e118, h⟩ := bind_some h
                      by_cases c119 : v117 = true
                      · replace h := ite_pos_some c119 h
                        obtain ⟨v120, e121, h⟩ := bind_some h
                        refine .reg (.mv rfl <| .cm rfl rfl rfl <| .mv rfl <| .gYt rfl rfl rfl c113 <| .ldE (qC (v47)) rfl rfl ly_exact_Q rfl rfl <| .gYt rfl rfl rfl c113 <| .ldE (rqC (v110)) rfl rfl ly_ambleref01_Q rfl rfl <| .gYt rfl rfl rfl c113 <| .callG (C_l_Same e115) ⟨rfl, rfl, trivial⟩ trivial trivial <| .pkTb rfl c113 rfl <| .mv rfl <| .gYt rfl rfl rfl c116 <| .ldE (qC (v48)) rfl rfl ly_exact_Q rfl rfl <| .gYt rfl rfl rfl c116 <| .ldE (rqC (v111)) rfl rfl ly_ambleref01_Q rfl rfl <| .gYt rfl rfl rfl c116 <| .callG (C_l_Same e118) ⟨rfl, rfl, trivial⟩ trivial trivial <| .pkTb rfl c116 rfl <| .mv rfl <| .gYt rfl rfl rfl c119 <| .callG (C_l_awake e121) trivial trivial trivial <| .pkTb rfl c119 rfl <| .asg rfl <| .nil) rfl ?_
                        cases h
                        refine .retG (fun _ _ hb => hb) rfl (.cons (.tmp rfl) .nil) (.refl _) trivial trivial
                      · replace h := ite_neg_some c119 h
                        refine .reg (.mv rfl <| .cm rfl rfl rfl <| .mv rfl <| .gYt rfl rfl rfl c113 <| .ldE (qC (v47)) rfl rfl ly_exact_Q rfl rfl <| .gYt rfl rfl rfl c113 <| .ldE (rqC (v110)) rfl rfl ly_ambleref01_Q rfl rfl <| .gYt rfl rfl rfl c113 <| .callG (C_l_Same e115) ⟨rfl, rfl, trivial⟩ trivial trivial <| .pkTb rfl c113 rfl <| .mv rfl <| .gYt rfl rfl rfl c116 <| .ldE (qC (v48)) rfl rfl ly_exact_Q rfl rfl <| .gYt rfl rfl rfl c116 <| .ldE (rqC (v111)) rfl rfl ly_ambleref01_Q rfl rfl <| .gYt rfl rfl rfl c116 <| .callG (C_l_Same e118) ⟨rfl, rfl, trivial⟩ trivial trivial <| .pkTb rfl c116 rfl <| .mv rfl <| .gNt rfl rfl rfl c119 <| .pkFb rfl c119 rfl <| .asg rfl <| .nil) rfl ?_
                        cases h
                        refine .retG (fun _ _ hb => hb) rfl (.cons (.tmp rfl) .nil) (.refl _) trivial trivial
                    · replace h := ite_neg_some c116 h
                      refine .reg (.mv rfl <| .cm rfl rfl rfl <| .mv rfl <| .gYt rfl rfl rfl c113 <| .ldE (qC (v47)) rfl rfl ly_exact_Q rfl rfl <| .gYt rfl rfl rfl c113 <| .ldE (rqC (v110)) rfl rfl ly_ambleref01_Q rfl rfl <| .gYt rfl rfl rfl c113 <| .callG (C_l_Same e115) ⟨rfl, rfl, trivial⟩ trivial trivial <| .pkTb rfl c113 rfl <| .mv rfl <| .gNt rfl rfl rfl c116 <| .gNt rfl rfl rfl c116 <| .gNt rfl rfl rfl c116 <| .pkFb rfl c116 rfl <| .mv rfl <| .gNt rfl rfl rfl (by decide) <| .pkFb rfl (by decide) rfl <| .asg rfl <| .nil) rfl ?_
                      cases h
                      refine .retG (fun _ _ hb => hb) rfl (.cons (.tmp rfl) .nil) (.refl _) trivial trivial
                  · replace h := ite_neg_some c113 h
                    refine .reg (.mv rfl <| .cm rfl rfl rfl <| .mv rfl <| .gNt rfl rfl rfl c113 <| .gNt rfl rfl rfl c113 <| .gNt rfl rfl rfl c113 <| .pkFb rfl c113 rfl <| .mv rfl <| .gNt rfl rfl rfl (by decide) <| .gNt rfl rfl rfl (by decide) <| .gNt rfl rfl rfl (by decide) <| .pkFb rfl (by decide) rfl <| .mv rfl <| .gNt rfl rfl rfl (by decide) <| .pkFb rfl (by decide) rfl <| .asg rfl <| .nil) rfl ?_
                    cases h
                    refine .retG (fun _ _ hb => hb) rfl (.cons (.tmp rfl) .nil) (.refl _) trivial trivial
end
end Go.Am
namespace Go.Am
theorem SameS {a b c : Rat} {i j k : Nat} [Bd a i] [Bd b j] [Bd c k] (h : i ≤ 400000000000) (h' : j ≤ 400000000000) (h2 : k ≤ 400000000000) : m_l_SameSurd a b c a b c = some true := by
  unfold m_l_SameSurd
  simp [Same_B h, Same_B h', Same_B h2]
theorem both_is (a1 a2 a3 a4 a5 a6 a7 a8 a9 : Int) (h1 : i64r a1) (h2 : i64r a2) (h3 : 0 ≤ a3 ∧ a3 ≤ 255) (h4 : i64r a4) (h5 : i64r a5) (h6 : 0 ≤ a6 ∧ a6 ≤ 255) (h7 : i64r a7) (h8 : i64r a8) (h9 : 0 ≤ a9 ∧ a9 ≤ 255) :
    ∃ x y z, m_l_both a1 a2 a3 a4 a5 a6 a7 a8 a9 = some ((x, y, z), (x, y, z), decide (sgn z ≥ 0)) ∧ sz x ≤ 256 ∧ sz y ≤ 256 ∧ sz z ≤ 256 := by
  obtain ⟨e1, s1⟩ := Both_is a1 a2 a3 h1 h2 h3
  obtain ⟨e2, s2⟩ := Both_is a4 a5 a6 h4 h5 h6
  obtain ⟨e3, s3⟩ := Both_is a7 a8 a9 h7 h8 h9
  refine ⟨_, _, _, ?_, s1, s2, s3⟩
  unfold m_l_both
  rw [e1, e2, e3]
  rfl
theorem sgn_neg {x : Rat} : sgn x < 0 ↔ x < 0 := by unfold sgn; grind
theorem normal_p (a b d : Rat) (ha : sz a ≤ 256) (hb : sz b ≤ 256) (hd : sz d ≤ 256) (h0 : ¬ d < 0) : m_Surd_normal a b d = some (normalR a b d) ∧ r_normal a b d = some (normalR a b d) ∧ m_l_SameSurd (normalR a b d).1 (normalR a b d).2.1 (normalR a b d).2.2 (normalR a b d).1 (normalR a b d).2.1 (normalR a b d).2.2 = some true := by
  haveI : Bd a 256 := ⟨ha⟩
  haveI : Bd b 256 := ⟨hb⟩
  haveI : Bd d 256 := ⟨hd⟩
  haveI : Bd (rt d) 256 := ⟨Nat.le_trans (sz_rt d) hd⟩
  have qd : qs' d := Nat.le_trans hd (by omega)
  have hden : ((d.den : Nat) : Rat) ≠ 0 := by
    have := d.den_nz
    intro h
    apply this
    exact_mod_cast h
  have e1 : q_sqrt d = some (if issq d then (rt d, true) else (0, false)) := must_eq ⟨qd, h0⟩
  have e2 : ((d.num * d.den : Int) : Rat) = (d.num : Rat) * ((d.den : Nat) : Rat) := by rw [Rat.intCast_mul]; rfl
  refine ⟨?_, must_eq ⟨Nat.le_trans ha (by omega), Nat.le_trans hb (by omega), qd, h0⟩, ?_⟩
  · unfold m_Surd_normal normalR
    by_cases hb0 : b = 0
    · subst hb0
      have z00 : sgn 0 = 0 := rfl
      by_cases hq : issq d
      · rw [if_pos hq]
        have : a + 0 * rt d = a := by grind
        simp [q_sign, z00]
        grind
      · rw [if_neg hq]
        simp [q_sign, z00]
    · have hs : ¬ sgn b = 0 := fun e => hb0 (sgn_eq0.1 e)
      by_cases hq : issq d
      · rw [if_pos hq]
        simp [q_sign, hs, e1, hq, q_mulB, q_addB]
      · rw [if_neg hq, if_neg hb0, e2]
        simp [q_sign, hs, e1, hq, q_den_eq qd, q_overB hden, q_num, q_mulB]
  · unfold normalR
    by_cases hq : issq d
    · rw [if_pos hq]; exact SameS (by decide) (by decide) (by decide)
    · rw [if_neg hq]
      by_cases hb0 : b = 0
      · rw [if_pos hb0]; exact SameS (by decide) (by decide) (by decide)
      · rw [if_neg hb0, e2]; exact SameS (by decide) (by decide) (by decide)
theorem Surds_true (a1 a2 a3 a4 a5 a6 a7 a8 a9 a10 a11 a12 a13 a14 a15 a16 a17 a18 a19 : Int)
    (h1 : i64r a1) (h2 : i64r a2) (h3 : 0 ≤ a3 ∧ a3 ≤ 255) (h4 : i64r a4) (h5 : i64r a5) (h6 : 0 ≤ a6 ∧ a6 ≤ 255) (h7 : i64r a7) (h8 : i64r a8) (h9 : 0 ≤ a9 ∧ a9 ≤ 255)
    (h10 : i64r a10) (h11 : i64r a11) (h12 : 0 ≤ a12 ∧ a12 ≤ 255) (h13 : i64r a13) (h14 : i64r a14) (h15 : 0 ≤ a15 ∧ a15 ≤ 255) (h16 : i64r a16) (h17 : i64r a17) (h18 : 0 ≤ a18 ∧ a18 ≤ 255) (h19 : i64r a19) :
    m_l_ExactSurds a1 a2 a3 a4 a5 a6 a7 a8 a9 a10 a11 a12 a13 a14 a15 a16 a17 a18 a19 = some true := by
  obtain ⟨a, b, d, e1, s1, s2, s3⟩ := both_is a1 a2 a3 a4 a5 a6 a7 a8 a9 h1 h2 h3 h4 h5 h6 h7 h8 h9
  obtain ⟨a', b', d', e2, t1, t2, t3⟩ := both_is a10 a11 a12 a13 a14 a15 a16 a17 a18 h10 h11 h12 h13 h14 h15 h16 h17 h18
  unfold m_l_ExactSurds
  rw [e1, e2]
  have eS : ∀ x : Rat, q_sign x = some (sgn x) := fun _ => rfl
  have z0 : sgn 0 = 0 := rfl
  have zz : m_l_SameSurd 0 0 0 0 0 0 = some true := SameS (by decide) (by decide) (by decide)
  simp only [Option.bind_some]
  by_cases hd : d < 0
  · have hs := sgn_neg.2 hd
    have hn : ¬ sgn d ≥ 0 := by omega
    have S1 : m_Surd_Sign a b d = some (0, 8) := by unfold m_Surd_Sign; rw [eS, Option.bind_some, if_pos (decide_eq_true hs)]
    have S2 : m_Surd_Cmp a b d a' b' d' = some (0, 8) := by unfold m_Surd_Cmp; rw [eS, Option.bind_some, if_pos (decide_eq_true hs)]
    have S3 : m_Surd_Normal a b d = some ((0, 0, 0), 8) := by unfold m_Surd_Normal; rw [eS, Option.bind_some, if_pos (decide_eq_true hs)]
    have S4 : m_Surd_Enclose a b d a19 = some (0, 0, 8) := by unfold m_Surd_Enclose; rw [eS, Option.bind_some, if_pos (decide_eq_true hs)]
    rw [S1, Option.bind_some]
    dsimp only
    rw [S2, Option.bind_some]
    dsimp only
    rw [S3, Option.bind_some]
    dsimp only
    rw [S4, Option.bind_some]
    dsimp only
    rw [if_pos (by simpa using hn)]
    simp [zz, eS, z0, awake_true]
  have hs : ¬ sgn d < 0 := fun h => hd (sgn_neg.1 h)
  obtain ⟨n1, n2, n3⟩ := normal_p a b d s1 s2 s3 hd
  have S1 : m_Surd_Sign a b d = some (sgS a b d, 0) := by
    unfold m_Surd_Sign
    rw [eS, Option.bind_some, if_neg (by simpa using hs), sign_p a b d (by omega) (by omega) (by omega)]; rfl
  have S1r : m_r_Surd_Sign a b d = some (sgS a b d) := sign_r a b d (by omega) (by omega) (by omega)
  have S3 : m_Surd_Normal a b d = some (normalR a b d, 0) := by
    unfold m_Surd_Normal
    rw [eS, Option.bind_some, if_neg (by simpa using hs), n1]; rfl
  have S2 : m_Surd_Cmp a b d a' b' d' = some (if d' < 0 then (0, 8) else (cmS a b d a' b' d', 0)) := by
    unfold m_Surd_Cmp
    rw [eS, Option.bind_some, if_neg (by simpa using hs), eS, Option.bind_some]
    by_cases hd' : d' < 0
    · rw [if_pos (decide_eq_true (sgn_neg.2 hd')), if_pos hd']
    · rw [if_neg (by rw [decide_eq_true_eq, sgn_neg]; exact hd'), if_neg hd', cmp_p a b d a' b' d' (by omega) (by omega) (by omega) (by omega) (by omega) (by omega)]; rfl
  have S2r : m_r_CmpSurd a b d a' b' d' = some (cmS a b d a' b' d') := cmp_r a b d a' b' d' (by omega) (by omega) (by omega) (by omega) (by omega) (by omega)
  have hE : ∃ lo hi er, m_Surd_Enclose a b d a19 = some (lo, hi, er) ∧
      (if (decide (a19 < 0)) = true then (if (er == 3) = true then (q_sign lo).bind fun v92 => (if (v92 == 0) = true then (q_sign hi).bind fun v95 => (if (v95 == 0) = true then (m_l_awake).bind fun v98 => some v98 else some false) else some false) else some false) else (if (decide (a19 > 64)) = true then (if (er == 3) = true then (q_sign lo).bind fun v102 => (if (v102 == 0) = true then (q_sign hi).bind fun v105 => (if (v105 == 0) = true then (m_l_awake).bind fun v108 => some v108 else some false) else some false) else some false) else (m_r_EncloseSurd a b d a19).bind fun x => (if (er == 0) = true then (m_l_Same lo x.1).bind fun v114 => (if v114 = true then (m_l_Same hi x.2).bind fun v117 => (if v117 = true then (m_l_awake).bind fun v120 => some v120 else some false) else some false) else some false))) = some true := by
    by_cases k0 : a19 < 0
    · refine ⟨0, 0, 3, ?_, ?_⟩
      · unfold m_Surd_Enclose
        rw [eS, Option.bind_some, if_neg (by simpa using hs), if_pos (decide_eq_true k0)]
      · rw [if_pos (decide_eq_true k0)]
        simp [eS, z0, awake_true]
    by_cases k1 : a19 > 64
    · refine ⟨0, 0, 3, ?_, ?_⟩
      · unfold m_Surd_Enclose
        rw [eS, Option.bind_some, if_neg (by simpa using hs), if_neg (by simpa using k0), if_pos (decide_eq_true k1)]
      · rw [if_neg (by simpa using k0), if_pos (decide_eq_true k1)]
        simp [eS, z0, awake_true]
    obtain ⟨m, p1, p2, p3, p4⟩ := Enclose_p a b d a19 s1 s2 s3 hd (by omega) (by omega)
    obtain ⟨n, r1, r2, r3⟩ := Enclose_r a b d a19 s1 s2 s3 hd (by omega) (by omega)
    obtain ⟨hF, hFs⟩ := fineQ a19.toNat (by omega)
    have emn := at_uniq hF hd p1 p2 r1 r2
    subst emn
    refine ⟨_, _, _, p4, ?_⟩
    rw [if_neg (by simpa using k0), if_neg (by simpa using k1), r3, Option.bind_some, if_pos (by decide)]
    have q1 : sz (encX a b d (2 ^ a19.toNat) m).1 ≤ 20000 := by
      unfold encX
      have := sz_div' (m : Rat) (2 ^ a19.toNat)
      simp only; omega
    have q2 : sz (encX a b d (2 ^ a19.toNat) m).2 ≤ 20000 := by
      unfold encX
      have h1 := sz_div' (m : Rat) (2 ^ a19.toNat)
      have h2 := sz_div' ((m : Rat) + 1) (2 ^ a19.toNat)
      have h3 := sz_add (m : Rat) 1
      have h4 : sz (1 : Rat) = 1 := rfl
      simp only
      split <;> omega
    simp only [Same_self (Nat.le_trans q1 (by omega)), Same_self (Nat.le_trans q2 (by omega)), Option.bind_some, if_true, awake_true]
  obtain ⟨lo, hi, er, S4, hE⟩ := hE
  by_cases hd' : d' < 0
  · have hs' := sgn_neg.2 hd'
    have hn' : ¬ sgn d' ≥ 0 := by omega
    have S2' : m_Surd_Cmp a b d a' b' d' = some (0, 8) := by rw [S2, if_pos hd']
    rw [S1, Option.bind_some]
    dsimp only
    rw [S2', Option.bind_some]
    dsimp only
    rw [S3, Option.bind_some]
    dsimp only
    rw [S4, Option.bind_some]
    dsimp only
    rw [if_neg (by simpa using hs), if_neg (by decide), S1r, Option.bind_some, if_neg (by simp), if_neg (by decide), n2, Option.bind_some, n3, Option.bind_some, if_neg (by decide)]
    rw [if_pos (by simpa using hn'), if_neg (by decide), if_neg (by decide), Option.bind_some]
    exact hE
  · have hs' : ¬ sgn d' < 0 := fun h => hd' (sgn_neg.1 h)
    have S2' : m_Surd_Cmp a b d a' b' d' = some (cmS a b d a' b' d', 0) := by rw [S2, if_neg hd']
    rw [S1, Option.bind_some]
    dsimp only
    rw [S2', Option.bind_some]
    dsimp only
    rw [S3, Option.bind_some]
    dsimp only
    rw [S4, Option.bind_some]
    dsimp only
    rw [if_neg (by simpa using hs), if_neg (by decide), S1r, Option.bind_some, if_neg (by simp), if_neg (by decide), n2, Option.bind_some, n3, Option.bind_some, if_neg (by decide)]
    rw [if_neg (by simpa using hs'), if_neg (by decide), S2r, Option.bind_some, if_neg (by simp), Option.bind_some]
    exact hE
end Go.Am
