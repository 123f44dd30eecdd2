/- ExactOps: the walk of the law, and its plain law: it returns true for every input. No condition. -/
import Derived.Test.YtgnepgenefcnpaaGreatDoorBaH
set_option linter.unusedVariables false
set_option linter.unusedSimpArgs false
namespace Go.Am
open Go.RowKit
set_option maxRecDepth 100000
noncomputable section
def m_l_ExactOps (a1 : Int) (a2 : Int) (a3 : Int) (a4 : Int) (a5 : Int) (a6 : Int) (a7 : Int) (a8 : Int) : Option Bool := (m_l_Both a1 a2 a3).bind fun (v9, v10) => (m_l_Both a4 a5 a6).bind fun (v12, v13) => (q_of a7 a8).bind fun (v15, v16) => ((if (a8 == 0) = true then (if (v16 != 9) = true then some (Ex.ret false) else (q_sign v15).bind fun v22 => (if (v22 != 0) = true then some (Ex.ret false) else some (Ex.brk ()))) else (if (v16 != 0) = true then some (Ex.ret false) else (r_of a7 a8).bind fun v26 => (m_l_Same v15 v26).bind fun v28 => (if (!v28) = true then some (Ex.ret false) else some (Ex.brk ()))))).bind fun o18 => (match o18 with | Ex.brk () => (q_div v9 v12).bind fun (v31, v32) => ((q_sign v13).bind fun v36 => (if (v36 == 0) = true then (if (v32 != 9) = true then some (Ex.ret false) else (q_sign v31).bind fun v40 => (if (v40 != 0) = true then some (Ex.ret false) else some (Ex.brk ()))) else (if (v32 != 0) = true then some (Ex.ret false) else (q_over v10 v13).bind fun v44 => (m_l_Same v31 v44).bind fun v46 => (if (!v46) = true then some (Ex.ret false) else some (Ex.brk ()))))).bind fun o34 => (match o34 with | Ex.brk () => (q_int a7).bind fun v49 => (q_int a7).bind fun v51 => (m_l_Same v49 v51).bind fun v53 => (if (!v53) = true then some false else (m_l_Same v9 v10).bind fun v56 => (if (!v56) = true then some false else (q_add v9 v12).bind fun v59 => (q_add v10 v13).bind fun v61 => (m_l_Same v59 v61).bind fun v63 => (if (!v63) = true then some false else (q_sub v9 v12).bind fun v66 => (q_sub v10 v13).bind fun v68 => (m_l_Same v66 v68).bind fun v70 => (if (!v70) = true then some false else (q_mul v9 v12).bind fun v73 => (q_mul v10 v13).bind fun v75 => (m_l_Same v73 v75).bind fun v77 => (if (!v77) = true then some false else (q_neg v9).bind fun v80 => (q_neg v10).bind fun v82 => (m_l_Same v80 v82).bind fun v84 => (if v84 = true then (q_abs v9).bind fun v87 => (q_abs v10).bind fun v89 => (m_l_Same v87 v89).bind fun v91 => (if v91 = true then (q_cmp v9 v12).bind fun v94 => (q_cmp v10 v13).bind fun v96 => (if (v94 == v96) = true then (q_sign v9).bind fun v99 => (q_sign v10).bind fun v101 => (if (v99 == v101) = true then (m_l_awake).bind fun v104 => some v104 else some false) else some false) else some false) else some false)))))) | Ex.ret r106 => some r106) | Ex.ret r107 => some r107)
theorem C_l_ExactOps {a1 : Int} {a2 : Int} {a3 : Int} {a4 : Int} {a5 : Int} {a6 : Int} {a7 : Int} {a8 : Int} {r108 : Bool} (h : m_l_ExactOps a1 a2 a3 a4 a5 a6 a7 a8 = some r108) : CtrG PP 6 [] [D.agg ([D.int .i64 a1, D.int .i64 a2, D.int .u8 a3]), D.agg ([D.int .i64 a4, D.int .i64 a5, D.int .u8 a6]), D.int .i64 a7, D.int .i64 a8] [] (D.bool r108) := by
  unfold m_l_ExactOps at h
  refine .of Go.Proofs.Tryz.func6 rfl (by kernel_rfl) rfl rfl rfl rfl rfl rfl (fun A w0 L b => ?_)
  show Ok PP _ [(0, D.agg ([D.int .i64 a1, D.int .i64 a2, D.int .u8 a3])), (1, D.agg ([D.int .i64 a4, D.int .i64 a5, D.int .u8 a6])), (2, D.int .i64 a7), (3, D.int .i64 a8)] [] _ _
  refine .reg (.bxA rfl rfl <| .bxA rfl rfl <| .asg rfl <| .nil) rfl ?_
  obtain ⟨⟨v9, v10⟩, e11, h⟩ := bind_some h
  refine .reg (.ldE ([D.int .i64 a1, D.int .i64 a2, D.int .u8 a3]) rfl rfl ly_amblelaw01_Num rfl rfl <| .callG (C_l_Both e11) ⟨rfl, trivial⟩ trivial trivial <| .mv rfl <| .ext rfl rfl <| .ext rfl rfl <| .alL (qC (0)) z_exact_Q ⟨zq1, zq2, zq3, trivial⟩ rfl <| .alL (rqC (0)) z_ambleref01_Q ⟨zr1, zr2, .refl _, zr4, trivial⟩ rfl <| .stE (qC (v9)) rfl rfl rfl ly_exact_Q rfl rfl rfl <| .stE (rqC (v10)) rfl rfl rfl ly_ambleref01_Q rfl rfl rfl <| .nil) rfl ?_
  obtain ⟨⟨v12, v13⟩, e14, h⟩ := bind_some h
  refine .reg (.ldE ([D.int .i64 a4, D.int .i64 a5, D.int .u8 a6]) rfl rfl ly_amblelaw01_Num rfl rfl <| .callG (C_l_Both e14) ⟨rfl, trivial⟩ trivial trivial <| .mv rfl <| .ext rfl rfl <| .ext rfl rfl <| .alL (qC (0)) z_exact_Q ⟨zq1, zq2, zq3, trivial⟩ rfl <| .alL (rqC (0)) z_ambleref01_Q ⟨zr1, zr2, .refl _, zr4, trivial⟩ rfl <| .stE (qC (v12)) rfl rfl rfl ly_exact_Q rfl rfl rfl <| .stE (rqC (v13)) rfl rfl rfl ly_ambleref01_Q rfl rfl rfl <| .nil) rfl ?_
  obtain ⟨⟨v15, v16⟩, e17, h⟩ := bind_some h
  refine .reg (.mv rfl <| .mv rfl <| .callG (Q_of e17) ⟨rfl, rfl, trivial⟩ trivial trivial <| .mv rfl <| .ext rfl rfl <| .ext rfl rfl <| .alL (qC (0)) z_exact_Q ⟨zq1, zq2, zq3, trivial⟩ rfl <| .stE (qC (v15)) rfl rfl rfl ly_exact_Q rfl rfl rfl <| .asg rfl <| .nil) rfl ?_
  obtain ⟨o18, hp19, h⟩ := bind_some h
  refine .cutX (fun i => o18 = Ex.brk i) (fun (i : Unit) => [(2, D.int .i64 a7), (9, D.ref 9 0), (10, D.ref 10 0), (11, D.ref 11 0), (12, D.ref 12 0)]) (fun (i : Unit) => [(9, Hp.box 28 (qC (v9))), (10, Hp.box 37 (rqC (v10))), (11, Hp.box 28 (qC (v12))), (12, Hp.box 37 (rqC (v13)))]) ?_ ?_
  · have ho1 := h
    clear h
    have h := hp19
    clear hp19
    refine .reg (.mv rfl <| .cm rfl rfl rfl <| .nil) rfl ?_
    by_cases c20 : (a8 == 0) = true
    · replace h := ite_pos_some c20 h
      refine .cTb rfl c20 ?_
      by_cases c21 : (v16 != 9) = true
      · replace h := ite_pos_some c21 h
        refine .reg (.mv rfl <| .cm rfl rfl rfl <| .mv rfl <| .gNf rfl rfl rfl c21 <| .gNf rfl rfl rfl c21 <| .gNf rfl rfl rfl c21 <| .pkTb rfl c21 rfl <| .nil) rfl ?_
        refine .cTb rfl rfl ?_
        refine .reg (.asg rfl <| .nil) rfl ?_
        cases h
        have h := ho1
        clear ho1
        cases h
        refine .retG (fun _ _ hb => hb) rfl (.cons (.tmp rfl) .nil) (.refl _) trivial trivial
      · replace h := ite_neg_some c21 h
        obtain ⟨v22, e23, h⟩ := bind_some h
        refine .reg (.mv rfl <| .cm rfl rfl rfl <| .mv rfl <| .gYf rfl rfl rfl c21 <| .ldE (qC (v15)) rfl rfl ly_exact_Q rfl rfl <| .gYf rfl rfl rfl c21 <| .callG (Q_sign e23) ⟨rfl, trivial⟩ trivial trivial <| .gYf rfl rfl rfl c21 <| .cm rfl rfl rfl <| .pkFb rfl c21 rfl <| .nil) rfl ?_
        by_cases c24 : (v22 != 0) = true
        · replace h := ite_pos_some c24 h
          refine .cTb rfl c24 ?_
          refine .reg (.asg rfl <| .nil) rfl ?_
          cases h
          have h := ho1
          clear ho1
          cases h
          refine .retG (fun _ _ hb => hb) rfl (.cons (.tmp rfl) .nil) (.refl _) trivial trivial
        · replace h := ite_neg_some c24 h
          refine .cFb rfl c24 ?_
          refine .skip (fun _ _ hs => ⟨(), (Option.some.inj h).symm, hs.sub ⟨⟨_, rfl, .refl _⟩, ⟨_, rfl, .refl _⟩, ⟨_, rfl, .refl _⟩, ⟨_, rfl, .refl _⟩, ⟨_, rfl, .refl _⟩, trivial⟩ ⟨⟨_, rfl, .refl _⟩, ⟨_, rfl, .refl _⟩, ⟨_, rfl, .refl _⟩, ⟨_, rfl, .refl _⟩, trivial⟩ rfl rfl⟩)
    · replace h := ite_neg_some c20 h
      refine .cFb rfl c20 ?_
      by_cases c25 : (v16 != 0) = true
      · replace h := ite_pos_some c25 h
        refine .regD hmix (.mv rfl <| .cm rfl rfl rfl <| .mv rfl <| .gNf rfl rfl rfl c25 <| .gNf rfl rfl rfl c25 <| .gNf rfl rfl rfl c25 <| .gNf rfl rfl rfl c25 <| .gNf rfl rfl rfl c25 <| .gNf rfl rfl rfl c25 <| .pkTb rfl c25 rfl <| .nil) rfl (by kernel_rfl) ?_
        refine .cTb rfl rfl ?_
        refine .reg (.asg rfl <| .nil) rfl ?_
        cases h
        have h := ho1
        clear ho1
        cases h
        refine .retG (fun _ _ hb => hb) rfl (.cons (.tmp rfl) .nil) (.refl _) trivial trivial
      · replace h := ite_neg_some c25 h
        obtain ⟨v26, e27, h⟩ := bind_some h
        obtain ⟨v28, e29, h⟩ := bind_some h
        refine .regD hmix (.mv rfl <| .cm rfl rfl rfl <| .mv rfl <| .gYf rfl rfl rfl c25 <| .ldE (qC (v15)) rfl rfl ly_exact_Q rfl rfl <| .gYf rfl rfl rfl c25 <| .mv rfl <| .gYf rfl rfl rfl c25 <| .mv rfl <| .gYf rfl rfl rfl c25 <| .callG (R_of e27) ⟨rfl, rfl, trivial⟩ trivial trivial <| .gYf rfl rfl rfl c25 <| .callG (C_l_Same e29) ⟨rfl, rfl, trivial⟩ trivial trivial <| .gYf rfl rfl rfl c25 <| .not rfl <| .pkFb rfl c25 rfl <| .nil) rfl (by kernel_rfl) ?_
        by_cases c30 : (!v28) = true
        · replace h := ite_pos_some c30 h
          refine .cTb rfl c30 ?_
          refine .reg (.asg rfl <| .nil) rfl ?_
          cases h
          have h := ho1
          clear ho1
          cases h
          refine .retG (fun _ _ hb => hb) rfl (.cons (.tmp rfl) .nil) (.refl _) trivial trivial
        · replace h := ite_neg_some c30 h
          refine .cFb rfl c30 ?_
          refine .skip (fun _ _ hs => ⟨(), (Option.some.inj h).symm, hs.sub ⟨⟨_, rfl, .refl _⟩, ⟨_, rfl, .refl _⟩, ⟨_, rfl, .refl _⟩, ⟨_, rfl, .refl _⟩, ⟨_, rfl, .refl _⟩, trivial⟩ ⟨⟨_, rfl, .refl _⟩, ⟨_, rfl, .refl _⟩, ⟨_, rfl, .refl _⟩, ⟨_, rfl, .refl _⟩, trivial⟩ rfl rfl⟩)
  · rintro ⟨⟩ rfl
    show Ok PP _ [(2, D.int .i64 a7), (9, D.ref 9 0), (10, D.ref 10 0), (11, D.ref 11 0), (12, D.ref 12 0)] [(9, Hp.box 28 (qC (v9))), (10, Hp.box 37 (rqC (v10))), (11, Hp.box 28 (qC (v12))), (12, Hp.box 37 (rqC (v13)))] _ _
    obtain ⟨⟨v31, v32⟩, e33, h⟩ := bind_some h
    refine .reg (.ldE (qC (v9)) rfl rfl ly_exact_Q rfl rfl <| .ldE (qC (v12)) rfl rfl ly_exact_Q rfl rfl <| .callG (Q_div e33) ⟨rfl, rfl, trivial⟩ trivial trivial <| .mv rfl <| .ext rfl rfl <| .ext rfl rfl <| .alL (qC (0)) z_exact_Q ⟨zq1, zq2, zq3, trivial⟩ rfl <| .stE (qC (v31)) rfl rfl rfl ly_exact_Q rfl rfl rfl <| .asg rfl <| .nil) rfl ?_
    obtain ⟨o34, hp35, h⟩ := bind_some h
    refine .cutX (fun i => o34 = Ex.brk i) (fun (i : Unit) => [(2, D.int .i64 a7), (9, D.ref 9 0), (10, D.ref 10 0), (11, D.ref 11 0), (12, D.ref 12 0)]) (fun (i : Unit) => [(9, Hp.box 28 (qC (v9))), (10, Hp.box 37 (rqC (v10))), (11, Hp.box 28 (qC (v12))), (12, Hp.box 37 (rqC (v13)))]) ?_ ?_
    · have ho1 := h
      clear h
      have h := hp35
      clear hp35
      obtain ⟨v36, e37, h⟩ := bind_some h
      refine .reg (.ldE (rqC (v13)) rfl rfl ly_ambleref01_Q rfl rfl <| .callG (R_sign e37) ⟨rfl, trivial⟩ trivial trivial <| .cm rfl rfl rfl <| .nil) rfl ?_
      by_cases c38 : (v36 == 0) = true
      · replace h := ite_pos_some c38 h
        refine .cTb rfl c38 ?_
        by_cases c39 : (v32 != 9) = true
        · replace h := ite_pos_some c39 h
          refine .reg (.mv rfl <| .cm rfl rfl rfl <| .mv rfl <| .gNf rfl rfl rfl c39 <| .gNf rfl rfl rfl c39 <| .gNf rfl rfl rfl c39 <| .pkTb rfl c39 rfl <| .nil) rfl ?_
          refine .cTb rfl rfl ?_
          refine .reg (.asg rfl <| .nil) rfl ?_
          cases h
          have h := ho1
          clear ho1
          cases h
          refine .retG (fun _ _ hb => hb) rfl (.cons (.tmp rfl) .nil) (.refl _) trivial trivial
        · replace h := ite_neg_some c39 h
          obtain ⟨v40, e41, h⟩ := bind_some h
          refine .reg (.mv rfl <| .cm rfl rfl rfl <| .mv rfl <| .gYf rfl rfl rfl c39 <| .ldE (qC (v31)) rfl rfl ly_exact_Q rfl rfl <| .gYf rfl rfl rfl c39 <| .callG (Q_sign e41) ⟨rfl, trivial⟩ trivial trivial <| .gYf rfl rfl rfl c39 <| .cm rfl rfl rfl <| .pkFb rfl c39 rfl <| .nil) rfl ?_
          by_cases c42 : (v40 != 0) = true
          · replace h := ite_pos_some c42 h
            refine .cTb rfl c42 ?_
            refine .reg (.asg rfl <| .nil) rfl ?_
            cases h
            have h := ho1
            clear ho1
            cases h
            refine .retG (fun _ _ hb => hb) rfl (.cons (.tmp rfl) .nil) (.refl _) trivial trivial
          · replace h := ite_neg_some c42 h
            refine .cFb rfl c42 ?_
            refine .skip (fun _ _ hs => ⟨(), (Option.some.inj h).symm, hs.sub ⟨⟨_, rfl, .refl _⟩, ⟨_, rfl, .refl _⟩, ⟨_, rfl, .refl _⟩, ⟨_, rfl, .refl _⟩, ⟨_, rfl, .refl _⟩, trivial⟩ ⟨⟨_, rfl, .refl _⟩, ⟨_, rfl, .refl _⟩, ⟨_, rfl, .refl _⟩, ⟨_, rfl, .refl _⟩, trivial⟩ rfl rfl⟩)
      · replace h := ite_neg_some c38 h
        refine .cFb rfl c38 ?_
        by_cases c43 : (v32 != 0) = true
        · replace h := ite_pos_some c43 h
          refine .regD hmix (.mv rfl <| .cm rfl rfl rfl <| .mv rfl <| .gNf rfl rfl rfl c43 <| .gNf rfl rfl rfl c43 <| .gNf rfl rfl rfl c43 <| .gNf rfl rfl rfl c43 <| .gNf rfl rfl rfl c43 <| .gNf rfl rfl rfl c43 <| .pkTb rfl c43 rfl <| .nil) rfl (by kernel_rfl) ?_
          refine .cTb rfl rfl ?_
          refine .reg (.asg rfl <| .nil) rfl ?_
          cases h
          have h := ho1
          clear ho1
          cases h
          refine .retG (fun _ _ hb => hb) rfl (.cons (.tmp rfl) .nil) (.refl _) trivial trivial
        · replace h := ite_neg_some c43 h
          obtain ⟨v44, e45, h⟩ := bind_some h
          obtain ⟨v46, e47, h⟩ := bind_some h
          refine .regD hmix (.mv rfl <| .cm rfl rfl rfl <| .mv rfl <| .gYf rfl rfl rfl c43 <| .ldE (qC (v31)) rfl rfl ly_exact_Q rfl rfl <| .gYf rfl rfl rfl c43 <| .ldE (rqC (v10)) rfl rfl ly_ambleref01_Q rfl rfl <| .gYf rfl rfl rfl c43 <| .ldE (rqC (v13)) rfl rfl ly_ambleref01_Q rfl rfl <| .gYf rfl rfl rfl c43 <| .callG (R_over e45) ⟨rfl, rfl, trivial⟩ trivial trivial <| .gYf rfl rfl rfl c43 <| .callG (C_l_Same e47) ⟨rfl, rfl, trivial⟩ trivial trivial <| .gYf rfl rfl rfl c43 <| .not rfl <| .pkFb rfl c43 rfl <| .nil) rfl (by kernel_rfl) ?_
          by_cases c48 : (!v46) = true
          · replace h := ite_pos_some c48 h
            refine .cTb rfl c48 ?_
            refine .reg (.asg rfl <| .nil) rfl ?_
            cases h
            have h := ho1
            clear ho1
            cases h
            refine .retG (fun _ _ hb => hb) rfl (.cons (.tmp rfl) .nil) (.refl _) trivial trivial
          · replace h := ite_neg_some c48 h
            refine .cFb rfl c48 ?_
            refine .skip (fun _ _ hs => ⟨(), (Option.some.inj h).symm, hs.sub ⟨⟨_, rfl, .refl _⟩, ⟨_, rfl, .refl _⟩, ⟨_, rfl, .refl _⟩, ⟨_, rfl, .refl _⟩, ⟨_, rfl, .refl _⟩, trivial⟩ ⟨⟨_, rfl, .refl _⟩, ⟨_, rfl, .refl _⟩, ⟨_, rfl, .refl _⟩, ⟨_, rfl, .refl _⟩, trivial⟩ rfl rfl⟩)
    · rintro ⟨⟩ rfl
      show Ok PP _ [(2, D.int .i64 a7), (9, D.ref 9 0), (10, D.ref 10 0), (11, D.ref 11 0), (12, D.ref 12 0)] [(9, Hp.box 28 (qC (v9))), (10, Hp.box 37 (rqC (v10))), (11, Hp.box 28 (qC (v12))), (12, Hp.box 37 (rqC (v13)))] _ _
      refine .sq ?_
      obtain ⟨v49, e50, h⟩ := bind_some h
      obtain ⟨v51, e52, h⟩ := bind_some h
      obtain ⟨v53, e54, h⟩ := bind_some h
      by_cases c55 : (!v53) = true
      · replace h := ite_pos_some c55 h
        refine .regD hmix (.mv rfl <| .callG (Q_int e50) ⟨rfl, trivial⟩ trivial trivial <| .mv rfl <| .callG (R_int e52) ⟨rfl, trivial⟩ trivial trivial <| .callG (C_l_Same e54) ⟨rfl, rfl, trivial⟩ trivial trivial <| .not rfl <| .mv rfl <| .gNf rfl rfl rfl c55 <| .gNf rfl rfl rfl c55 <| .gNf rfl rfl rfl c55 <| .gNf rfl rfl rfl c55 <| .pkTb rfl c55 rfl <| .mv rfl <| .gNf rfl rfl rfl rfl <| .gNf rfl rfl rfl rfl <| .gNf rfl rfl rfl rfl <| .gNf rfl rfl rfl rfl <| .gNf rfl rfl rfl rfl <| .gNf rfl rfl rfl rfl <| .gNf rfl rfl rfl rfl <| .gNf rfl rfl rfl rfl <| .pkTb rfl rfl rfl <| .mv rfl <| .gNf rfl rfl rfl rfl <| .gNf rfl rfl rfl rfl <| .gNf rfl rfl rfl rfl <| .gNf rfl rfl rfl rfl <| .gNf rfl rfl rfl rfl <| .gNf rfl rfl rfl rfl <| .gNf rfl rfl rfl rfl <| .gNf rfl rfl rfl rfl <| .pkTb rfl rfl rfl <| .mv rfl <| .gNf rfl rfl rfl rfl <| .gNf rfl rfl rfl rfl <| .gNf rfl rfl rfl rfl <| .gNf rfl rfl rfl rfl <| .gNf rfl rfl rfl rfl <| .gNf rfl rfl rfl rfl <| .gNf rfl rfl rfl rfl <| .gNf rfl rfl rfl rfl <| .pkTb rfl rfl rfl <| .nil) rfl (by kernel_rfl) ?_
        refine .cTb rfl rfl ?_
        refine .reg (.asg rfl <| .nil) rfl ?_
        cases h
        refine .retG (fun _ _ hb => hb) rfl (.cons (.tmp rfl) .nil) (.refl _) trivial trivial
      · replace h := ite_neg_some c55 h
        obtain ⟨v56, e57, h⟩ := bind_some h
        by_cases c58 : (!v56) = true
        · replace h := ite_pos_some c58 h
          refine .regD hmix (.mv rfl <| .callG (Q_int e50) ⟨rfl, trivial⟩ trivial trivial <| .mv rfl <| .callG (R_int e52) ⟨rfl, trivial⟩ trivial trivial <| .callG (C_l_Same e54) ⟨rfl, rfl, trivial⟩ trivial trivial <| .not rfl <| .mv rfl <| .gYf rfl rfl rfl c55 <| .ldE (qC (v9)) rfl rfl ly_exact_Q rfl rfl <| .gYf rfl rfl rfl c55 <| .ldE (rqC (v10)) rfl rfl ly_ambleref01_Q rfl rfl <| .gYf rfl rfl rfl c55 <| .callG (C_l_Same e57) ⟨rfl, rfl, trivial⟩ trivial trivial <| .gYf rfl rfl rfl c55 <| .not rfl <| .pkFb rfl c55 rfl <| .mv rfl <| .gNf rfl rfl rfl c58 <| .gNf rfl rfl rfl c58 <| .gNf rfl rfl rfl c58 <| .gNf rfl rfl rfl c58 <| .gNf rfl rfl rfl c58 <| .gNf rfl rfl rfl c58 <| .gNf rfl rfl rfl c58 <| .gNf rfl rfl rfl c58 <| .pkTb rfl c58 rfl <| .mv rfl <| .gNf rfl rfl rfl rfl <| .gNf rfl rfl rfl rfl <| .gNf rfl rfl rfl rfl <| .gNf rfl rfl rfl rfl <| .gNf rfl rfl rfl rfl <| .gNf rfl rfl rfl rfl <| .gNf rfl rfl rfl rfl <| .gNf rfl rfl rfl rfl <| .pkTb rfl rfl rfl <| .mv rfl <| .gNf rfl rfl rfl rfl <| .gNf rfl rfl rfl rfl <| .gNf rfl rfl rfl rfl <| .gNf rfl rfl rfl rfl <| .gNf rfl rfl rfl rfl <| .gNf rfl rfl rfl rfl <| .gNf rfl rfl rfl rfl <| .gNf rfl rfl rfl rfl <| .pkTb rfl rfl rfl <| .nil) rfl (by kernel_rfl) ?_
          refine .cTb rfl rfl ?_
          refine .reg (.asg rfl <| .nil) rfl ?_
          cases h
          refine .retG (fun _ _ hb => hb) rfl (.cons (.tmp rfl) .nil) (.refl _) trivial trivial
        · replace h := ite_neg_some c58 h
          obtain ⟨v59, e60, h⟩ := bind_some h
          obtain ⟨v61, e62, h⟩ := bind_some h
          obtain ⟨v63, e64, h⟩ := bind_some h
          by_cases c65 : (!v63) = true
          · replace h := ite_pos_some c65 h
            refine .regD hmix (.mv rfl <| .callG (Q_int e50) ⟨rfl, trivial⟩ trivial trivial <| .mv rfl <| .callG (R_int e52) ⟨rfl, trivial⟩ trivial trivial <| .callG (C_l_Same e54) ⟨rfl, rfl, trivial⟩ trivial trivial <| .not rfl <| .mv rfl <| .gYf rfl rfl rfl c55 <| .ldE (qC (v9)) rfl rfl ly_exact_Q rfl rfl <| .gYf rfl rfl rfl c55 <| .ldE (rqC (v10)) rfl rfl ly_ambleref01_Q rfl rfl <| .gYf rfl rfl rfl c55 <| .callG (C_l_Same e57) ⟨rfl, rfl, trivial⟩ trivial trivial <| .gYf rfl rfl rfl c55 <| .not rfl <| .pkFb rfl c55 rfl <| .mv rfl <| .gYf rfl rfl rfl c58 <| .ldE (qC (v9)) rfl rfl ly_exact_Q rfl rfl <| .gYf rfl rfl rfl c58 <| .ldE (qC (v12)) rfl rfl ly_exact_Q rfl rfl <| .gYf rfl rfl rfl c58 <| .callG (Q_add e60) ⟨rfl, rfl, trivial⟩ trivial trivial <| .gYf rfl rfl rfl c58 <| .ldE (rqC (v10)) rfl rfl ly_ambleref01_Q rfl rfl <| .gYf rfl rfl rfl c58 <| .ldE (rqC (v13)) rfl rfl ly_ambleref01_Q rfl rfl <| .gYf rfl rfl rfl c58 <| .callG (R_add e62) ⟨rfl, rfl, trivial⟩ trivial trivial <| .gYf rfl rfl rfl c58 <| .callG (C_l_Same e64) ⟨rfl, rfl, trivial⟩ trivial trivial <| .gYf rfl rfl rfl c58 <| .not rfl <| .pkFb rfl c58 rfl <| .mv rfl <| .gNf rfl rfl rfl c65 <| .gNf rfl rfl rfl c65 <| .gNf rfl rfl rfl c65 <| .gNf rfl rfl rfl c65 <| .gNf rfl rfl rfl c65 <| .gNf rfl rfl rfl c65 <| .gNf rfl rfl rfl c65 <| .gNf rfl rfl rfl c65 <| .pkTb rfl c65 rfl <| .mv rfl <| .gNf rfl rfl rfl rfl <| .gNf rfl rfl rfl rfl <| .gNf rfl rfl rfl rfl <| .gNf rfl rfl rfl rfl <| .gNf rfl rfl rfl rfl <| .gNf rfl rfl rfl rfl <| .gNf rfl rfl rfl rfl <| .gNf rfl rfl rfl rfl <| .pkTb rfl rfl rfl <| .nil) rfl (by kernel_rfl) ?_
            refine .cTb rfl rfl ?_
            refine .reg (.asg rfl <| .nil) rfl ?_
            cases h
            refine .retG (fun _ _ hb => hb) rfl (.cons (.tmp rfl) .nil) (.refl _) trivial trivial
          · replace h := ite_neg_some c65 h
            obtain ⟨v66, e67, h⟩ := bind_some h
            obtain ⟨v68, e69, h⟩ := bind_some h
            obtain ⟨v70, e71, h⟩ := bind_some h
            by_cases c72 : (!v70) = true
            · replace h := ite_pos_some c72 h
              refine .regD hmix (.mv rfl <| .callG (Q_int e50) ⟨rfl, trivial⟩ trivial trivial <| .mv rfl <| .callG (R_int e52) ⟨rfl, trivial⟩ trivial trivial <| .callG (C_l_Same e54) ⟨rfl, rfl, trivial⟩ trivial trivial <| .not rfl <| .mv rfl <| .gYf rfl rfl rfl c55 <| .ldE (qC (v9)) rfl rfl ly_exact_Q rfl rfl <| .gYf rfl rfl rfl c55 <| .ldE (rqC (v10)) rfl rfl ly_ambleref01_Q rfl rfl <| .gYf rfl rfl rfl c55 <| .callG (C_l_Same e57) ⟨rfl, rfl, trivial⟩ trivial trivial <| .gYf rfl rfl rfl c55 <| .not rfl <| .pkFb rfl c55 rfl <| .mv rfl <| .gYf rfl rfl rfl c58 <| .ldE (qC (v9)) rfl rfl ly_exact_Q rfl rfl <| .gYf rfl rfl rfl c58 <| .ldE (qC (v12)) rfl rfl ly_exact_Q rfl rfl <| .gYf rfl rfl rfl c58 <| .callG (Q_add e60) ⟨rfl, rfl, trivial⟩ trivial trivial <| .gYf rfl rfl rfl c58 <| .ldE (rqC (v10)) rfl rfl ly_ambleref01_Q rfl rfl <| .gYf rfl rfl rfl c58 <| .ldE (rqC (v13)) rfl rfl ly_ambleref01_Q rfl rfl <| .gYf rfl rfl rfl c58 <| .callG (R_add e62) ⟨rfl, rfl, trivial⟩ trivial trivial <| .gYf rfl rfl rfl c58 <| .callG (C_l_Same e64) ⟨rfl, rfl, trivial⟩ trivial trivial <| .gYf rfl rfl rfl c58 <| .not rfl <| .pkFb rfl c58 rfl <| .mv rfl <| .gYf rfl rfl rfl c65 <| .ldE (qC (v9)) rfl rfl ly_exact_Q rfl rfl <| .gYf rfl rfl rfl c65 <| .ldE (qC (v12)) rfl rfl ly_exact_Q rfl rfl <| .gYf rfl rfl rfl c65 <| .callG (Q_sub e67) ⟨rfl, rfl, trivial⟩ trivial trivial <| .gYf rfl rfl rfl c65 <| .ldE (rqC (v10)) rfl rfl ly_ambleref01_Q rfl rfl <| .gYf rfl rfl rfl c65 <| .ldE (rqC (v13)) rfl rfl ly_ambleref01_Q rfl rfl <| .gYf rfl rfl rfl c65 <| .callG (R_sub e69) ⟨rfl, rfl, trivial⟩ trivial trivial <| .gYf rfl rfl rfl c65 <| .callG (C_l_Same e71) ⟨rfl, rfl, trivial⟩ trivial trivial <| .gYf rfl rfl rfl c65 <| .not rfl <| .pkFb rfl c65 rfl <| .mv rfl <| .gNf rfl rfl rfl c72 <| .gNf rfl rfl rfl c72 <| .gNf rfl rfl rfl c72 <| .gNf rfl rfl rfl c72 <| .gNf rfl rfl rfl c72 <| .gNf rfl rfl rfl c72 <| .gNf rfl rfl rfl c72 <| .gNf rfl rfl rfl c72 <| .pkTb rfl c72 rfl <| .nil) rfl (by kernel_rfl) ?_
              refine .cTb rfl rfl ?_
              refine .reg (.asg rfl <| .nil) rfl ?_
              cases h
              refine .retG (fun _ _ hb => hb) rfl (.cons (.tmp rfl) .nil) (.refl _) trivial trivial
            · replace h := ite_neg_some c72 h
              obtain ⟨v73, e74, h⟩ := bind_some h
              obtain ⟨v75, e76, h⟩ := bind_some h
              obtain ⟨v77, e78, h⟩ := bind_some h
              refine .regD hmix (.mv rfl <| .callG (Q_int e50) ⟨rfl, trivial⟩ trivial trivial <| .mv rfl <| .callG (R_int e52) ⟨rfl, trivial⟩ trivial trivial <| .callG (C_l_Same e54) ⟨rfl, rfl, trivial⟩ trivial trivial <| .not rfl <| .mv rfl <| .gYf rfl rfl rfl c55 <| .ldE (qC (v9)) rfl rfl ly_exact_Q rfl rfl <| .gYf rfl rfl rfl c55 <| .ldE (rqC (v10)) rfl rfl ly_ambleref01_Q rfl rfl <| .gYf rfl rfl rfl c55 <| .callG (C_l_Same e57) ⟨rfl, rfl, trivial⟩ trivial trivial <| .gYf rfl rfl rfl c55 <| .not rfl <| .pkFb rfl c55 rfl <| .mv rfl <| .gYf rfl rfl rfl c58 <| .ldE (qC (v9)) rfl rfl ly_exact_Q rfl rfl <| .gYf rfl rfl rfl c58 <| .ldE (qC (v12)) rfl rfl ly_exact_Q rfl rfl <| .gYf rfl rfl rfl c58 <| .callG (Q_add e60) ⟨rfl, rfl, trivial⟩ trivial trivial <| .gYf rfl rfl rfl c58 <| .ldE (rqC (v10)) rfl rfl ly_ambleref01_Q rfl rfl <| .gYf rfl rfl rfl c58 <| .ldE (rqC (v13)) rfl rfl ly_ambleref01_Q rfl rfl <| .gYf rfl rfl rfl c58 <| .callG (R_add e62) ⟨rfl, rfl, trivial⟩ trivial trivial <| .gYf rfl rfl rfl c58 <| .callG (C_l_Same e64) ⟨rfl, rfl, trivial⟩ trivial trivial <| .gYf rfl rfl rfl c58 <| .not rfl <| .pkFb rfl c58 rfl <| .mv rfl <| .gYf rfl rfl rfl c65 <| .ldE (qC (v9)) rfl rfl ly_exact_Q rfl rfl <| .gYf rfl rfl rfl c65 <| .ldE (qC (v12)) rfl rfl ly_exact_Q rfl rfl <| .gYf rfl rfl rfl c65 <| .callG (Q_sub e67) ⟨rfl, rfl, trivial⟩ trivial trivial <| .gYf rfl rfl rfl c65 <| .ldE (rqC (v10)) rfl rfl ly_ambleref01_Q rfl rfl <| .gYf rfl rfl rfl c65 <| .ldE (rqC (v13)) rfl rfl ly_ambleref01_Q rfl rfl <| .gYf rfl rfl rfl c65 <| .callG (R_sub e69) ⟨rfl, rfl, trivial⟩ trivial trivial <| .gYf rfl rfl rfl c65 <| .callG (C_l_Same e71) ⟨rfl, rfl, trivial⟩ trivial trivial <| .gYf rfl rfl rfl c65 <| .not rfl <| .pkFb rfl c65 rfl <| .mv rfl <| .gYf rfl rfl rfl c72 <| .ldE (qC (v9)) rfl rfl ly_exact_Q rfl rfl <| .gYf rfl rfl rfl c72 <| .ldE (qC (v12)) rfl rfl ly_exact_Q rfl rfl <| .gYf rfl rfl rfl c72 <| .callG (Q_mul e74) ⟨rfl, rfl, trivial⟩ trivial trivial <| .gYf rfl rfl rfl c72 <| .ldE (rqC (v10)) rfl rfl ly_ambleref01_Q rfl rfl <| .gYf rfl rfl rfl c72 <| .ldE (rqC (v13)) rfl rfl ly_ambleref01_Q rfl rfl <| .gYf rfl rfl rfl c72 <| .callG (R_mul e76) ⟨rfl, rfl, trivial⟩ trivial trivial <| .gYf rfl rfl rfl c72 <| .callG (C_l_Same e78) ⟨rfl, rfl, trivial⟩ trivial trivial <| .gYf rfl rfl rfl c72 <| .not rfl <| .pkFb rfl c72 rfl <| .nil) rfl (by kernel_rfl) ?_
              by_cases c79 : (!v77) = true
              · replace h := ite_pos_some c79 h
                refine .cTb rfl c79 ?_
                refine .reg (.asg rfl <| .nil) rfl ?_
                cases h
                refine .retG (fun _ _ hb => hb) rfl (.cons (.tmp rfl) .nil) (.refl _) trivial trivial
              · replace h := ite_neg_some c79 h
                refine .cFb rfl c79 ?_
                refine .skip (Ok.on ?_)
                obtain ⟨v80, e81, h⟩ := bind_some h
                obtain ⟨v82, e83, h⟩ := bind_some h
                obtain ⟨v84, e85, h⟩ := bind_some h
                by_cases c86 : v84 = true
                · replace h := ite_pos_some c86 h
                  obtain ⟨v87, e88, h⟩ := bind_some h
                  obtain ⟨v89, e90, h⟩ := bind_some h
                  obtain ⟨v91, e92, h⟩ := bind_some h
                  by_cases c93 : v91 = true
                  · replace h := ite_pos_some c93 h
                    obtain ⟨v94, e95, h⟩ := bind_some h
                    obtain ⟨v96, e97, h⟩ := bind_some h
                    by_cases c98 : (v94 == v96) = true
                    · replace h := ite_pos_some c98 h
                      obtain ⟨v99, e100, h⟩ := bind_some h
                      obtain ⟨v101, e102, h⟩ := bind_some h
                      by_cases c103 : (v99 == v101) = true
                      · replace h := ite_pos_some c103 h
                        obtain ⟨v104, e105, h⟩ := bind_some h
                        refine .regD hmix (.ldE (qC (v9)) rfl rfl ly_exact_Q rfl rfl <| .callG (Q_neg e81) ⟨rfl, trivial⟩ trivial trivial <| .ldE (rqC (v10)) rfl rfl ly_ambleref01_Q rfl rfl <| .callG (R_neg e83) ⟨rfl, trivial⟩ trivial trivial <| .callG (C_l_Same e85) ⟨rfl, rfl, trivial⟩ trivial trivial <| .mv rfl <| .gYt rfl rfl rfl c86 <| .ldE (qC (v9)) rfl rfl ly_exact_Q rfl rfl <| .gYt rfl rfl rfl c86 <| .callG (Q_abs e88) ⟨rfl, trivial⟩ trivial trivial <| .gYt rfl rfl rfl c86 <| .ldE (rqC (v10)) rfl rfl ly_ambleref01_Q rfl rfl <| .gYt rfl rfl rfl c86 <| .callG (R_abs e90) ⟨rfl, trivial⟩ trivial trivial <| .gYt rfl rfl rfl c86 <| .callG (C_l_Same e92) ⟨rfl, rfl, trivial⟩ trivial trivial <| .pkTb rfl c86 rfl <| .mv rfl <| .gYt rfl rfl rfl c93 <| .ldE (qC (v9)) rfl rfl ly_exact_Q rfl rfl <| .gYt rfl rfl rfl c93 <| .ldE (qC (v12)) rfl rfl ly_exact_Q rfl rfl <| .gYt rfl rfl rfl c93 <| .callG (Q_cmp e95) ⟨rfl, rfl, trivial⟩ trivial trivial <| .gYt rfl rfl rfl c93 <| .ldE (rqC (v10)) rfl rfl ly_ambleref01_Q rfl rfl <| .gYt rfl rfl rfl c93 <| .ldE (rqC (v13)) rfl rfl ly_ambleref01_Q rfl rfl <| .gYt rfl rfl rfl c93 <| .callG (R_cmp e97) ⟨rfl, rfl, trivial⟩ trivial trivial <| .gYt rfl rfl rfl c93 <| .cm rfl rfl rfl <| .pkTb rfl c93 rfl <| .mv rfl <| .gYt rfl rfl rfl c98 <| .ldE (qC (v9)) rfl rfl ly_exact_Q rfl rfl <| .gYt rfl rfl rfl c98 <| .callG (Q_sign e100) ⟨rfl, trivial⟩ trivial trivial <| .gYt rfl rfl rfl c98 <| .ldE (rqC (v10)) rfl rfl ly_ambleref01_Q rfl rfl <| .gYt rfl rfl rfl c98 <| .callG (R_sign e102) ⟨rfl, trivial⟩ trivial trivial <| .gYt rfl rfl rfl c98 <| .cm rfl rfl rfl <| .pkTb rfl c98 rfl <| .mv rfl <| .gYt rfl rfl rfl c103 <| .callG (C_l_awake e105) trivial trivial trivial <| .pkTb rfl c103 rfl <| .asg rfl <| .nil) rfl (by kernel_rfl) ?_
                        cases h
                        refine .retG (fun _ _ hb => hb) rfl (.cons (.tmp rfl) .nil) (.refl _) trivial trivial
                      · replace h := ite_neg_some c103 h
                        refine .regD hmix (.ldE (qC (v9)) rfl rfl ly_exact_Q rfl rfl <| .callG (Q_neg e81) ⟨rfl, trivial⟩ trivial trivial <| .ldE (rqC (v10)) rfl rfl ly_ambleref01_Q rfl rfl <| .callG (R_neg e83) ⟨rfl, trivial⟩ trivial trivial <| .callG (C_l_Same e85) ⟨rfl, rfl, trivial⟩ trivial trivial <| .mv rfl <| .gYt rfl rfl rfl c86 <| .ldE (qC (v9)) rfl rfl ly_exact_Q rfl rfl <| .gYt rfl rfl rfl c86 <| .callG (Q_abs e88) ⟨rfl, trivial⟩ trivial trivial <| .gYt rfl rfl rfl c86 <| .ldE (rqC (v10)) rfl rfl ly_ambleref01_Q rfl rfl <| .gYt rfl rfl rfl c86 <| .callG (R_abs e90) ⟨rfl, trivial⟩ trivial trivial <| .gYt rfl rfl rfl c86 <| .callG (C_l_Same e92) ⟨rfl, rfl, trivial⟩ trivial trivial <| .pkTb rfl c86 rfl <| .mv rfl <| .gYt rfl rfl rfl c93 <| .ldE (qC (v9)) rfl rfl ly_exact_Q rfl rfl <| .gYt rfl rfl rfl c93 <| .ldE (qC (v12)) rfl rfl ly_exact_Q rfl rfl <| .gYt rfl rfl rfl c93 <| .callG (Q_cmp e95) ⟨rfl, rfl, trivial⟩ trivial trivial <| .gYt rfl rfl rfl c93 <| .ldE (rqC (v10)) rfl rfl ly_ambleref01_Q rfl rfl <| .gYt rfl rfl rfl c93 <| .ldE (rqC (v13)) rfl rfl ly_ambleref01_Q rfl rfl <| .gYt rfl rfl rfl c93 <| .callG (R_cmp e97) ⟨rfl, rfl, trivial⟩ trivial trivial <| .gYt rfl rfl rfl c93 <| .cm rfl rfl rfl <| .pkTb rfl c93 rfl <| .mv rfl <| .gYt rfl rfl rfl c98 <| .ldE (qC (v9)) rfl rfl ly_exact_Q rfl rfl <| .gYt rfl rfl rfl c98 <| .callG (Q_sign e100) ⟨rfl, trivial⟩ trivial trivial <| .gYt rfl rfl rfl c98 <| .ldE (rqC (v10)) rfl rfl ly_ambleref01_Q rfl rfl <| .gYt rfl rfl rfl c98 <| .callG (R_sign e102) ⟨rfl, trivial⟩ trivial trivial <| .gYt rfl rfl rfl c98 <| .cm rfl rfl rfl <| .pkTb rfl c98 rfl <| .mv rfl <| .gNt rfl rfl rfl c103 <| .pkFb rfl c103 rfl <| .asg rfl <| .nil) rfl (by kernel_rfl) ?_
                        cases h
                        refine .retG (fun _ _ hb => hb) rfl (.cons (.tmp rfl) .nil) (.refl _) trivial trivial
                    · replace h := ite_neg_some c98 h
                      refine .regD hmix (.ldE (qC (v9)) rfl rfl ly_exact_Q rfl rfl <| .callG (Q_neg e81) ⟨rfl, trivial⟩ trivial trivial <| .ldE (rqC (v10)) rfl rfl ly_ambleref01_Q rfl rfl <| .callG (R_neg e83) ⟨rfl, trivial⟩ trivial trivial <| .callG (C_l_Same e85) ⟨rfl, rfl, trivial⟩ trivial trivial <| .mv rfl <| .gYt rfl rfl rfl c86 <| .ldE (qC (v9)) rfl rfl ly_exact_Q rfl rfl <| .gYt rfl rfl rfl c86 <| .callG (Q_abs e88) ⟨rfl, trivial⟩ trivial trivial <| .gYt rfl rfl rfl c86 <| .ldE (rqC (v10)) rfl rfl ly_ambleref01_Q rfl rfl <| .gYt rfl rfl rfl c86 <| .callG (R_abs e90) ⟨rfl, trivial⟩ trivial trivial <| .gYt rfl rfl rfl c86 <| .callG (C_l_Same e92) ⟨rfl, rfl, trivial⟩ trivial trivial <| .pkTb rfl c86 rfl <| .mv rfl <| .gYt rfl rfl rfl c93 <| .ldE (qC (v9)) rfl rfl ly_exact_Q rfl rfl <| .gYt rfl rfl rfl c93 <| .ldE (qC (v12)) rfl rfl ly_exact_Q rfl rfl <| .gYt rfl rfl rfl c93 <| .callG (Q_cmp e95) ⟨rfl, rfl, trivial⟩ trivial trivial <| .gYt rfl rfl rfl c93 <| .ldE (rqC (v10)) rfl rfl ly_ambleref01_Q rfl rfl <| .gYt rfl rfl rfl c93 <| .ldE (rqC (v13)) rfl rfl ly_ambleref01_Q rfl rfl <| .gYt rfl rfl rfl c93 <| .callG (R_cmp e97) ⟨rfl, rfl, trivial⟩ trivial trivial <| .gYt rfl rfl rfl c93 <| .cm rfl rfl rfl <| .pkTb rfl c93 rfl <| .mv rfl <| .gNt rfl rfl rfl c98 <| .gNt rfl rfl rfl c98 <| .gNt rfl rfl rfl c98 <| .gNt rfl rfl rfl c98 <| .gNt rfl rfl rfl c98 <| .pkFb rfl c98 rfl <| .mv rfl <| .gNt rfl rfl rfl (by decide) <| .pkFb rfl (by decide) rfl <| .asg rfl <| .nil) rfl (by kernel_rfl) ?_
                      cases h
                      refine .retG (fun _ _ hb => hb) rfl (.cons (.tmp rfl) .nil) (.refl _) trivial trivial
                  · replace h := ite_neg_some c93 h
                    refine .regD hmix (.ldE (qC (v9)) rfl rfl ly_exact_Q rfl rfl <| .callG (Q_neg e81) ⟨rfl, trivial⟩ trivial trivial <| .ldE (rqC (v10)) rfl rfl ly_ambleref01_Q rfl rfl <| .callG (R_neg e83) ⟨rfl, trivial⟩ trivial trivial <| .callG (C_l_Same e85) ⟨rfl, rfl, trivial⟩ trivial trivial <| .mv rfl <| .gYt rfl rfl rfl c86 <| .ldE (qC (v9)) rfl rfl ly_exact_Q rfl rfl <| .gYt rfl rfl rfl c86 <| .callG (Q_abs e88) ⟨rfl, trivial⟩ trivial trivial <| .gYt rfl rfl rfl c86 <| .ldE (rqC (v10)) rfl rfl ly_ambleref01_Q rfl rfl <| .gYt rfl rfl rfl c86 <| .callG (R_abs e90) ⟨rfl, trivial⟩ trivial trivial <| .gYt rfl rfl rfl c86 <| .callG (C_l_Same e92) ⟨rfl, rfl, trivial⟩ trivial trivial <| .pkTb rfl c86 rfl <| .mv rfl <| .gNt rfl rfl rfl c93 <| .gNt rfl rfl rfl c93 <| .gNt rfl rfl rfl c93 <| .gNt rfl rfl rfl c93 <| .gNt rfl rfl rfl c93 <| .gNt rfl rfl rfl c93 <| .gNt rfl rfl rfl c93 <| .pkFb rfl c93 rfl <| .mv rfl <| .gNt rfl rfl rfl (by decide) <| .gNt rfl rfl rfl (by decide) <| .gNt rfl rfl rfl (by decide) <| .gNt rfl rfl rfl (by decide) <| .gNt rfl rfl rfl (by decide) <| .pkFb rfl (by decide) rfl <| .mv rfl <| .gNt rfl rfl rfl (by decide) <| .pkFb rfl (by decide) rfl <| .asg rfl <| .nil) rfl (by kernel_rfl) ?_
                    cases h
                    refine .retG (fun _ _ hb => hb) rfl (.cons (.tmp rfl) .nil) (.refl _) trivial trivial
                · replace h := ite_neg_some c86 h
                  refine .regD hmix (.ldE (qC (v9)) rfl rfl ly_exact_Q rfl rfl <| .callG (Q_neg e81) ⟨rfl, trivial⟩ trivial trivial <| .ldE (rqC (v10)) rfl rfl ly_ambleref01_Q rfl rfl <| .callG (R_neg e83) ⟨rfl, trivial⟩ trivial trivial <| .callG (C_l_Same e85) ⟨rfl, rfl, trivial⟩ trivial trivial <| .mv rfl <| .gNt rfl rfl rfl c86 <| .gNt rfl rfl rfl c86 <| .gNt rfl rfl rfl c86 <| .gNt rfl rfl rfl c86 <| .gNt rfl rfl rfl c86 <| .pkFb rfl c86 rfl <| .mv rfl <| .gNt rfl rfl rfl (by decide) <| .gNt rfl rfl rfl (by decide) <| .gNt rfl rfl rfl (by decide) <| .gNt rfl rfl rfl (by decide) <| .gNt rfl rfl rfl (by decide) <| .gNt rfl rfl rfl (by decide) <| .gNt rfl rfl rfl (by decide) <| .pkFb rfl (by decide) rfl <| .mv rfl <| .gNt rfl rfl rfl (by decide) <| .gNt rfl rfl rfl (by decide) <| .gNt rfl rfl rfl (by decide) <| .gNt rfl rfl rfl (by decide) <| .gNt rfl rfl rfl (by decide) <| .pkFb rfl (by decide) rfl <| .mv rfl <| .gNt rfl rfl rfl (by decide) <| .pkFb rfl (by decide) rfl <| .asg rfl <| .nil) rfl (by kernel_rfl) ?_
                  cases h
                  refine .retG (fun _ _ hb => hb) rfl (.cons (.tmp rfl) .nil) (.refl _) trivial trivial
end
end Go.Am
namespace Go.Am
theorem Ops_true (a1 a2 a3 a4 a5 a6 a7 a8 : Int) (h1 : i64r a1) (h2 : i64r a2) (h3 : 0 ≤ a3 ∧ a3 ≤ 255) (h4 : i64r a4) (h5 : i64r a5) (h6 : 0 ≤ a6 ∧ a6 ≤ 255) (h7 : i64r a7) (h8 : i64r a8) : m_l_ExactOps a1 a2 a3 a4 a5 a6 a7 a8 = some true := by
  obtain ⟨e1, s1⟩ := Both_is a1 a2 a3 h1 h2 h3
  obtain ⟨e2, s2⟩ := Both_is a4 a5 a6 h4 h5 h6
  unfold m_l_ExactOps
  rw [e1, e2]
  generalize bothX a1 a2 a3 = x at *
  generalize bothX a4 a5 a6 = y at *
  haveI : Bd x 256 := ⟨s1⟩
  haveI : Bd y 256 := ⟨s2⟩
  have hz : sgn 0 = 0 := rfl
  have b1 : Bd ((a7 : Int) : Rat) 65 := ⟨Nat.le_trans (sz_int a7) (Nat.succ_le_succ (blen_small (n := 64) (by unfold i64r at h7; omega)))⟩
  have eI : q_int a7 = some (a7 : Rat) := must_eq h7
  have eO : q_of a7 a8 = some (if a8 = 0 then (0, 9) else ((a7 : Rat) / (a8 : Rat), 0)) := must_eq ⟨h7, h8⟩
  simp only [Option.bind_some]
  rw [eO]
  have bO : a8 ≠ 0 → Bd ((a7 : Rat) / (a8 : Rat)) 64 := fun h => ⟨sz_frac h7 h8 h⟩
  have eR : a8 ≠ 0 → r_of a7 a8 = some ((a7 : Rat) / (a8 : Rat)) := fun h => must_eq ⟨h7, h8, h⟩
  have hy' : sgn y = 0 ↔ y = 0 := sgn_eq0
  by_cases h0 : a8 = 0 <;> by_cases hy : y = 0
  · simp [h0, hy, hz, q_sign, q_divB, q_addB, q_subB, q_mulB, q_cmpB, q_neg, q_abs, eI, Same_B, awake_true]
  · have hs : ¬ sgn y = 0 := fun e => hy (sgn_eq0.1 e)
    simp [h0, hy, hs, hz, q_sign, q_divB, q_addB, q_subB, q_mulB, q_cmpB, q_overB, q_neg, q_abs, eI, Same_B, awake_true]
  · haveI := bO h0
    simp [h0, hy, hz, eR h0, q_sign, q_divB, q_addB, q_subB, q_mulB, q_cmpB, q_neg, q_abs, eI, Same_B, awake_true]
  · haveI := bO h0
    have hs : ¬ sgn y = 0 := fun e => hy (sgn_eq0.1 e)
    simp [h0, hy, hs, hz, eR h0, q_sign, q_divB, q_addB, q_subB, q_mulB, q_cmpB, q_overB, q_neg, q_abs, eI, Same_B, awake_true]
end Go.Am
