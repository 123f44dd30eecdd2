/- ExactTurns: the walk of the law, and its plain law: it returns true for every input. No condition. -/
import Derived.Test.YtgnepgenefcnpaaGreatDoorBaH
set_option linter.unusedVariables false
set_option linter.unusedSimpArgs false
namespace Go.Am
open Go.RowKit
set_option maxRecDepth 100000
noncomputable section
def m_l_ExactTurns (a1 : Int) (a2 : Int) (a3 : Int) (a4 : Int) (a5 : Int) (a6 : Int) (a7 : Int) (a8 : Int) (a9 : Int) (a10 : Int) (a11 : Int) (a12 : Int) (a13 : Int) (a14 : Int) (a15 : Int) (a16 : Int) (a17 : Int) (a18 : Int) : Option Bool := (m_l_Both a1 a2 a3).bind fun (v19, v20) => (m_l_Both a4 a5 a6).bind fun (v22, v23) => (m_l_BothPoints a7 a8 a9 a10 a11 a12).bind fun ((v25, v26), (v27, v28)) => (m_l_BothPoints a13 a14 a15 a16 a17 a18).bind fun ((v30, v31), (v32, v33)) => (m_Turn v19).bind fun (v35, v36) => (m_Turn v22).bind fun (v38, v39) => (m_Rot_Half v35 v36).bind fun (v41, v42) => (m_Rot_Valid v35 v36).bind fun v44 => (if (!v44) = true then some false else (if (!v42) = true then some false else (m_l_same v41 v19).bind fun v48 => (if (!v48) = true then some false else (m_Point_Turn v25 v26 v35 v36).bind fun (v51, v52) => (m_Point_Turn v30 v31 v35 v36).bind fun (v54, v55) => (m_Point_Dot v51 v52 v54 v55).bind fun v57 => (m_Point_Dot v25 v26 v30 v31).bind fun v59 => (m_l_same v57 v59).bind fun v61 => (if (!v61) = true then some false else (m_Point_Turn v25 v26 v35 v36).bind fun (v64, v65) => (m_Point_Turn v30 v31 v35 v36).bind fun (v67, v68) => (m_Point_Cross v64 v65 v67 v68).bind fun v70 => (m_Point_Cross v25 v26 v30 v31).bind fun v72 => (m_l_same v70 v72).bind fun v74 => (if (!v74) = true then some false else (m_Rot_Then v35 v36 v38 v39).bind fun (v77, v78) => (m_Rot_Back v38 v39).bind fun (v80, v81) => (m_Rot_Then v77 v78 v80 v81).bind fun (v83, v84) => (m_Point_Turn v25 v26 v35 v36).bind fun (v86, v87) => (m_Point_Turn v86 v87 v38 v39).bind fun (v89, v90) => (m_Point_Turn v25 v26 v77 v78).bind fun (v92, v93) => (m_Rot_Valid v77 v78).bind fun v95 => (if v95 = true then (m_l_same v83 v35).bind fun v98 => (if v98 = true then (m_l_same v84 v36).bind fun v101 => (if v101 = true then (m_l_same v89 v92).bind fun v104 => (if v104 = true then (m_l_same v90 v93).bind fun v107 => (if v107 = true then (m_l_awake).bind fun v110 => some v110 else some false) else some false) else some false) else some false) else some false))))))
theorem C_l_ExactTurns {a1 : Int} {a2 : Int} {a3 : Int} {a4 : Int} {a5 : Int} {a6 : Int} {a7 : Int} {a8 : Int} {a9 : Int} {a10 : Int} {a11 : Int} {a12 : Int} {a13 : Int} {a14 : Int} {a15 : Int} {a16 : Int} {a17 : Int} {a18 : Int} {r112 : Bool} (h : m_l_ExactTurns a1 a2 a3 a4 a5 a6 a7 a8 a9 a10 a11 a12 a13 a14 a15 a16 a17 a18 = some r112) : CtrG PP 9 [] [D.agg ([D.int .i64 a1, D.int .i64 a2, D.int .u8 a3]), D.agg ([D.int .i64 a4, D.int .i64 a5, D.int .u8 a6]), D.agg ([D.int .i64 a7, D.int .i64 a8, D.int .u8 a9, D.int .i64 a10, D.int .i64 a11, D.int .u8 a12]), D.agg ([D.int .i64 a13, D.int .i64 a14, D.int .u8 a15, D.int .i64 a16, D.int .i64 a17, D.int .u8 a18])] [] (D.bool r112) := by
  unfold m_l_ExactTurns at h
  refine .of Go.Proofs.Tryz.func9 rfl (by kernel_rfl) rfl rfl rfl rfl rfl rfl (fun A w0 L b => ?_)
  show Ok PP _ [(0, D.agg ([D.int .i64 a1, D.int .i64 a2, D.int .u8 a3])), (1, D.agg ([D.int .i64 a4, D.int .i64 a5, D.int .u8 a6])), (2, D.agg ([D.int .i64 a7, D.int .i64 a8, D.int .u8 a9, D.int .i64 a10, D.int .i64 a11, D.int .u8 a12])), (3, D.agg ([D.int .i64 a13, D.int .i64 a14, D.int .u8 a15, D.int .i64 a16, D.int .i64 a17, D.int .u8 a18]))] [] _ _
  refine .reg (.bxA rfl rfl <| .bxA rfl rfl <| .bxA rfl rfl <| .bxA rfl rfl <| .asg rfl <| .nil) rfl ?_
  obtain ⟨⟨v19, v20⟩, e21, h⟩ := bind_some h
  refine .reg (.ldE ([D.int .i64 a1, D.int .i64 a2, D.int .u8 a3]) rfl rfl ly_amblelaw01_Num rfl rfl <| .callG (C_l_Both e21) ⟨rfl, trivial⟩ trivial trivial <| .mv rfl <| .ext rfl rfl <| .ext rfl rfl <| .alL (qC (0)) z_exact_Q ⟨zq1, zq2, zq3, trivial⟩ rfl <| .alL (rqC (0)) z_ambleref01_Q ⟨zr1, zr2, .refl _, zr4, trivial⟩ rfl <| .stE (qC (v19)) rfl rfl rfl ly_exact_Q rfl rfl rfl <| .stE (rqC (v20)) rfl rfl rfl ly_ambleref01_Q rfl rfl rfl <| .nil) rfl ?_
  obtain ⟨⟨v22, v23⟩, e24, h⟩ := bind_some h
  refine .reg (.ldE ([D.int .i64 a4, D.int .i64 a5, D.int .u8 a6]) rfl rfl ly_amblelaw01_Num rfl rfl <| .callG (C_l_Both e24) ⟨rfl, trivial⟩ trivial trivial <| .mv rfl <| .ext rfl rfl <| .ext rfl rfl <| .alL (qC (0)) z_exact_Q ⟨zq1, zq2, zq3, trivial⟩ rfl <| .alL (rqC (0)) z_ambleref01_Q ⟨zr1, zr2, .refl _, zr4, trivial⟩ rfl <| .stE (qC (v22)) rfl rfl rfl ly_exact_Q rfl rfl rfl <| .stE (rqC (v23)) rfl rfl rfl ly_ambleref01_Q rfl rfl rfl <| .nil) rfl ?_
  obtain ⟨⟨⟨v25, v26⟩, ⟨v27, v28⟩⟩, e29, h⟩ := bind_some h
  refine .reg (.ldE ([D.int .i64 a7, D.int .i64 a8, D.int .u8 a9, D.int .i64 a10, D.int .i64 a11, D.int .u8 a12]) rfl rfl ly_amblelaw01_Spot rfl rfl <| .callG (C_l_BothPoints e29) ⟨rfl, trivial⟩ trivial trivial <| .mv rfl <| .ext rfl rfl <| .ext rfl rfl <| .alL (qC (0) ++ qC (0)) z_exact_Point ⟨zq1, zq2, zq3, zq1, zq2, zq3, trivial⟩ rfl <| .alL (rqC (0) ++ rqC (0)) z_ambleref01_Point ⟨zr1, zr2, .refl _, zr4, zr1, zr2, .refl _, zr4, trivial⟩ rfl <| .stE (qC (v25) ++ qC (v26)) rfl rfl rfl ly_exact_Point rfl rfl rfl <| .stE (rqC (v27) ++ rqC (v28)) rfl rfl rfl ly_ambleref01_Point rfl rfl rfl <| .nil) rfl ?_
  obtain ⟨⟨⟨v30, v31⟩, ⟨v32, v33⟩⟩, e34, h⟩ := bind_some h
  refine .reg (.ldE ([D.int .i64 a13, D.int .i64 a14, D.int .u8 a15, D.int .i64 a16, D.int .i64 a17, D.int .u8 a18]) rfl rfl ly_amblelaw01_Spot rfl rfl <| .callG (C_l_BothPoints e34) ⟨rfl, trivial⟩ trivial trivial <| .mv rfl <| .ext rfl rfl <| .ext rfl rfl <| .alL (qC (0) ++ qC (0)) z_exact_Point ⟨zq1, zq2, zq3, zq1, zq2, zq3, trivial⟩ rfl <| .alL (rqC (0) ++ rqC (0)) z_ambleref01_Point ⟨zr1, zr2, .refl _, zr4, zr1, zr2, .refl _, zr4, trivial⟩ rfl <| .stE (qC (v30) ++ qC (v31)) rfl rfl rfl ly_exact_Point rfl rfl rfl <| .stE (rqC (v32) ++ rqC (v33)) rfl rfl rfl ly_ambleref01_Point rfl rfl rfl <| .nil) rfl ?_
  obtain ⟨⟨v35, v36⟩, e37, h⟩ := bind_some h
  obtain ⟨⟨v38, v39⟩, e40, h⟩ := bind_some h
  refine .regD hmix (.ldE (qC (v19)) rfl rfl ly_exact_Q rfl rfl <| .callG (C_Turn e37) ⟨rfl, trivial⟩ trivial trivial <| .ldE (qC (v22)) rfl rfl ly_exact_Q rfl rfl <| .callG (C_Turn e40) ⟨rfl, trivial⟩ trivial trivial <| .alL (qC (0) ++ qC (0)) z_exact_Rot ⟨zq1, zq2, zq3, zq1, zq2, zq3, trivial⟩ rfl <| .alL (qC (0) ++ qC (0)) z_exact_Rot ⟨zq1, zq2, zq3, zq1, zq2, zq3, trivial⟩ rfl <| .stE (qC (v35) ++ qC (v36)) rfl rfl rfl ly_exact_Rot rfl rfl rfl <| .stE (qC (v38) ++ qC (v39)) rfl rfl rfl ly_exact_Rot rfl rfl rfl <| .nil) rfl (by kernel_rfl) ?_
  obtain ⟨⟨v41, v42⟩, e43, h⟩ := bind_some h
  refine .reg (.ldE (qC (v35) ++ qC (v36)) rfl rfl ly_exact_Rot rfl rfl <| .callG (C_Rot_Half e43) ⟨rfl, trivial⟩ trivial trivial <| .mv rfl <| .ext rfl rfl <| .ext rfl rfl <| .alL (qC (0)) z_exact_Q ⟨zq1, zq2, zq3, trivial⟩ rfl <| .stE (qC (v41)) rfl rfl rfl ly_exact_Q rfl rfl rfl <| .asg rfl <| .nil) rfl ?_
  refine .sq ?_
  obtain ⟨v44, e45, h⟩ := bind_some h
  by_cases c46 : (!v44) = true
  · replace h := ite_pos_some c46 h
    refine .regD hmix (.ldE (qC (v35) ++ qC (v36)) rfl rfl ly_exact_Rot rfl rfl <| .callG (C_Rot_Valid e45) ⟨rfl, trivial⟩ trivial trivial <| .not rfl <| .mv rfl <| .gNf rfl rfl rfl c46 <| .gNf rfl rfl rfl c46 <| .pkTb rfl c46 rfl <| .mv rfl <| .gNf rfl rfl rfl rfl <| .gNf rfl rfl rfl rfl <| .gNf rfl rfl rfl rfl <| .gNf rfl rfl rfl rfl <| .pkTb rfl rfl rfl <| .mv rfl <| .gNf rfl rfl rfl rfl <| .gNf rfl rfl rfl rfl <| .gNf rfl rfl rfl rfl <| .gNf rfl rfl rfl rfl <| .gNf rfl rfl rfl rfl <| .gNf rfl rfl rfl rfl <| .gNf rfl rfl rfl rfl <| .gNf rfl rfl rfl rfl <| .gNf rfl rfl rfl rfl <| .gNf rfl rfl rfl rfl <| .gNf rfl rfl rfl rfl <| .gNf rfl rfl rfl rfl <| .pkTb rfl rfl rfl <| .mv rfl <| .gNf rfl rfl rfl rfl <| .gNf rfl rfl rfl rfl <| .gNf rfl rfl rfl rfl <| .gNf rfl rfl rfl rfl <| .gNf rfl rfl rfl rfl <| .gNf rfl rfl rfl rfl <| .gNf rfl rfl rfl rfl <| .gNf rfl rfl rfl rfl <| .gNf rfl rfl rfl rfl <| .gNf rfl rfl rfl rfl <| .gNf rfl rfl rfl rfl <| .gNf rfl rfl rfl rfl <| .pkTb rfl rfl rfl <| .nil) rfl (by kernel_rfl) ?_
    refine .cTb rfl rfl ?_
    refine .reg (.asg rfl <| .nil) rfl ?_
    cases h
    refine .retG (fun _ _ hb => hb) rfl (.cons (.tmp rfl) .nil) (.refl _) trivial trivial
  · replace h := ite_neg_some c46 h
    by_cases c47 : (!v42) = true
    · replace h := ite_pos_some c47 h
      refine .regD hmix (.ldE (qC (v35) ++ qC (v36)) rfl rfl ly_exact_Rot rfl rfl <| .callG (C_Rot_Valid e45) ⟨rfl, trivial⟩ trivial trivial <| .not rfl <| .mv rfl <| .gYf rfl rfl rfl c46 <| .mv rfl <| .gYf rfl rfl rfl c46 <| .not rfl <| .pkFb rfl c46 rfl <| .mv rfl <| .gNf rfl rfl rfl c47 <| .gNf rfl rfl rfl c47 <| .gNf rfl rfl rfl c47 <| .gNf rfl rfl rfl c47 <| .pkTb rfl c47 rfl <| .mv rfl <| .gNf rfl rfl rfl rfl <| .gNf rfl rfl rfl rfl <| .gNf rfl rfl rfl rfl <| .gNf rfl rfl rfl rfl <| .gNf rfl rfl rfl rfl <| .gNf rfl rfl rfl rfl <| .gNf rfl rfl rfl rfl <| .gNf rfl rfl rfl rfl <| .gNf rfl rfl rfl rfl <| .gNf rfl rfl rfl rfl <| .gNf rfl rfl rfl rfl <| .gNf rfl rfl rfl rfl <| .pkTb rfl rfl rfl <| .mv rfl <| .gNf rfl rfl rfl rfl <| .gNf rfl rfl rfl rfl <| .gNf rfl rfl rfl rfl <| .gNf rfl rfl rfl rfl <| .gNf rfl rfl rfl rfl <| .gNf rfl rfl rfl rfl <| .gNf rfl rfl rfl rfl <| .gNf rfl rfl rfl rfl <| .gNf rfl rfl rfl rfl <| .gNf rfl rfl rfl rfl <| .gNf rfl rfl rfl rfl <| .gNf rfl rfl rfl rfl <| .pkTb rfl rfl rfl <| .nil) rfl (by kernel_rfl) ?_
      refine .cTb rfl rfl ?_
      refine .reg (.asg rfl <| .nil) rfl ?_
      cases h
      refine .retG (fun _ _ hb => hb) rfl (.cons (.tmp rfl) .nil) (.refl _) trivial trivial
    · replace h := ite_neg_some c47 h
      obtain ⟨v48, e49, h⟩ := bind_some h
      by_cases c50 : (!v48) = true
      · replace h := ite_pos_some c50 h
        refine .regD hmix (.ldE (qC (v35) ++ qC (v36)) rfl rfl ly_exact_Rot rfl rfl <| .callG (C_Rot_Valid e45) ⟨rfl, trivial⟩ trivial trivial <| .not rfl <| .mv rfl <| .gYf rfl rfl rfl c46 <| .mv rfl <| .gYf rfl rfl rfl c46 <| .not rfl <| .pkFb rfl c46 rfl <| .mv rfl <| .gYf rfl rfl rfl c47 <| .ldE (qC (v41)) rfl rfl ly_exact_Q rfl rfl <| .gYf rfl rfl rfl c47 <| .ldE (qC (v19)) rfl rfl ly_exact_Q rfl rfl <| .gYf rfl rfl rfl c47 <| .callG (C_l_same e49) ⟨rfl, rfl, trivial⟩ trivial trivial <| .gYf rfl rfl rfl c47 <| .not rfl <| .pkFb rfl c47 rfl <| .mv rfl <| .gNf rfl rfl rfl c50 <| .gNf rfl rfl rfl c50 <| .gNf rfl rfl rfl c50 <| .gNf rfl rfl rfl c50 <| .gNf rfl rfl rfl c50 <| .gNf rfl rfl rfl c50 <| .gNf rfl rfl rfl c50 <| .gNf rfl rfl rfl c50 <| .gNf rfl rfl rfl c50 <| .gNf rfl rfl rfl c50 <| .gNf rfl rfl rfl c50 <| .gNf rfl rfl rfl c50 <| .pkTb rfl c50 rfl <| .mv rfl <| .gNf rfl rfl rfl rfl <| .gNf rfl rfl rfl rfl <| .gNf rfl rfl rfl rfl <| .gNf rfl rfl rfl rfl <| .gNf rfl rfl rfl rfl <| .gNf rfl rfl rfl rfl <| .gNf rfl rfl rfl rfl <| .gNf rfl rfl rfl rfl <| .gNf rfl rfl rfl rfl <| .gNf rfl rfl rfl rfl <| .gNf rfl rfl rfl rfl <| .gNf rfl rfl rfl rfl <| .pkTb rfl rfl rfl <| .nil) rfl (by kernel_rfl) ?_
        refine .cTb rfl rfl ?_
        refine .reg (.asg rfl <| .nil) rfl ?_
        cases h
        refine .retG (fun _ _ hb => hb) rfl (.cons (.tmp rfl) .nil) (.refl _) trivial trivial
      · replace h := ite_neg_some c50 h
        obtain ⟨⟨v51, v52⟩, e53, h⟩ := bind_some h
        obtain ⟨⟨v54, v55⟩, e56, h⟩ := bind_some h
        obtain ⟨v57, e58, h⟩ := bind_some h
        obtain ⟨v59, e60, h⟩ := bind_some h
        obtain ⟨v61, e62, h⟩ := bind_some h
        by_cases c63 : (!v61) = true
        · replace h := ite_pos_some c63 h
          refine .regD hmix (.ldE (qC (v35) ++ qC (v36)) rfl rfl ly_exact_Rot rfl rfl <| .callG (C_Rot_Valid e45) ⟨rfl, trivial⟩ trivial trivial <| .not rfl <| .mv rfl <| .gYf rfl rfl rfl c46 <| .mv rfl <| .gYf rfl rfl rfl c46 <| .not rfl <| .pkFb rfl c46 rfl <| .mv rfl <| .gYf rfl rfl rfl c47 <| .ldE (qC (v41)) rfl rfl ly_exact_Q rfl rfl <| .gYf rfl rfl rfl c47 <| .ldE (qC (v19)) rfl rfl ly_exact_Q rfl rfl <| .gYf rfl rfl rfl c47 <| .callG (C_l_same e49) ⟨rfl, rfl, trivial⟩ trivial trivial <| .gYf rfl rfl rfl c47 <| .not rfl <| .pkFb rfl c47 rfl <| .mv rfl <| .gYf rfl rfl rfl c50 <| .ldE (qC (v25) ++ qC (v26)) rfl rfl ly_exact_Point rfl rfl <| .gYf rfl rfl rfl c50 <| .ldE (qC (v35) ++ qC (v36)) rfl rfl ly_exact_Rot rfl rfl <| .gYf rfl rfl rfl c50 <| .callG (C_Point_Turn e53) ⟨rfl, rfl, trivial⟩ trivial trivial <| .gYf rfl rfl rfl c50 <| .ldE (qC (v30) ++ qC (v31)) rfl rfl ly_exact_Point rfl rfl <| .gYf rfl rfl rfl c50 <| .ldE (qC (v35) ++ qC (v36)) rfl rfl ly_exact_Rot rfl rfl <| .gYf rfl rfl rfl c50 <| .callG (C_Point_Turn e56) ⟨rfl, rfl, trivial⟩ trivial trivial <| .gYf rfl rfl rfl c50 <| .callG (C_Point_Dot e58) ⟨rfl, rfl, trivial⟩ trivial trivial <| .gYf rfl rfl rfl c50 <| .ldE (qC (v25) ++ qC (v26)) rfl rfl ly_exact_Point rfl rfl <| .gYf rfl rfl rfl c50 <| .ldE (qC (v30) ++ qC (v31)) rfl rfl ly_exact_Point rfl rfl <| .gYf rfl rfl rfl c50 <| .callG (C_Point_Dot e60) ⟨rfl, rfl, trivial⟩ trivial trivial <| .gYf rfl rfl rfl c50 <| .callG (C_l_same e62) ⟨rfl, rfl, trivial⟩ trivial trivial <| .gYf rfl rfl rfl c50 <| .not rfl <| .pkFb rfl c50 rfl <| .mv rfl <| .gNf rfl rfl rfl c63 <| .gNf rfl rfl rfl c63 <| .gNf rfl rfl rfl c63 <| .gNf rfl rfl rfl c63 <| .gNf rfl rfl rfl c63 <| .gNf rfl rfl rfl c63 <| .gNf rfl rfl rfl c63 <| .gNf rfl rfl rfl c63 <| .gNf rfl rfl rfl c63 <| .gNf rfl rfl rfl c63 <| .gNf rfl rfl rfl c63 <| .gNf rfl rfl rfl c63 <| .pkTb rfl c63 rfl <| .nil) rfl (by kernel_rfl) ?_
          refine .cTb rfl rfl ?_
          refine .reg (.asg rfl <| .nil) rfl ?_
          cases h
          refine .retG (fun _ _ hb => hb) rfl (.cons (.tmp rfl) .nil) (.refl _) trivial trivial
        · replace h := ite_neg_some c63 h
          obtain ⟨⟨v64, v65⟩, e66, h⟩ := bind_some h
          obtain ⟨⟨v67, v68⟩, e69, h⟩ := bind_some h
          obtain ⟨v70, e71, h⟩ := bind_some h
          obtain ⟨v72, e73, h⟩ := bind_some h
          obtain ⟨v74, e75, h⟩ := bind_some h
          refine .regD hmix (.ldE (qC (v35) ++ qC (v36)) rfl rfl ly_exact_Rot rfl rfl <| .callG (C_Rot_Valid e45) ⟨rfl, trivial⟩ trivial trivial <| .not rfl <| .mv rfl <| .gYf rfl rfl rfl c46 <| .mv rfl <| .gYf rfl rfl rfl c46 <| .not rfl <| .pkFb rfl c46 rfl <| .mv rfl <| .gYf rfl rfl rfl c47 <| .ldE (qC (v41)) rfl rfl ly_exact_Q rfl rfl <| .gYf rfl rfl rfl c47 <| .ldE (qC (v19)) rfl rfl ly_exact_Q rfl rfl <| .gYf rfl rfl rfl c47 <| .callG (C_l_same e49) ⟨rfl, rfl, trivial⟩ trivial trivial <| .gYf rfl rfl rfl c47 <| .not rfl <| .pkFb rfl c47 rfl <| .mv rfl <| .gYf rfl rfl rfl c50 <| .ldE (qC (v25) ++ qC (v26)) rfl rfl ly_exact_Point rfl rfl <| .gYf rfl rfl rfl c50 <| .ldE (qC (v35) ++ qC (v36)) rfl rfl ly_exact_Rot rfl rfl <| .gYf rfl rfl rfl c50 <| .callG (C_Point_Turn e53) ⟨rfl, rfl, trivial⟩ trivial trivial <| .gYf rfl rfl rfl c50 <| .ldE (qC (v30) ++ qC (v31)) rfl rfl ly_exact_Point rfl rfl <| .gYf rfl rfl rfl c50 <| .ldE (qC (v35) ++ qC (v36)) rfl rfl ly_exact_Rot rfl rfl <| .gYf rfl rfl rfl c50 <| .callG (C_Point_Turn e56) ⟨rfl, rfl, trivial⟩ trivial trivial <| .gYf rfl rfl rfl c50 <| .callG (C_Point_Dot e58) ⟨rfl, rfl, trivial⟩ trivial trivial <| .gYf rfl rfl rfl c50 <| .ldE (qC (v25) ++ qC (v26)) rfl rfl ly_exact_Point rfl rfl <| .gYf rfl rfl rfl c50 <| .ldE (qC (v30) ++ qC (v31)) rfl rfl ly_exact_Point rfl rfl <| .gYf rfl rfl rfl c50 <| .callG (C_Point_Dot e60) ⟨rfl, rfl, trivial⟩ trivial trivial <| .gYf rfl rfl rfl c50 <| .callG (C_l_same e62) ⟨rfl, rfl, trivial⟩ trivial trivial <| .gYf rfl rfl rfl c50 <| .not rfl <| .pkFb rfl c50 rfl <| .mv rfl <| .gYf rfl rfl rfl c63 <| .ldE (qC (v25) ++ qC (v26)) rfl rfl ly_exact_Point rfl rfl <| .gYf rfl rfl rfl c63 <| .ldE (qC (v35) ++ qC (v36)) rfl rfl ly_exact_Rot rfl rfl <| .gYf rfl rfl rfl c63 <| .callG (C_Point_Turn e66) ⟨rfl, rfl, trivial⟩ trivial trivial <| .gYf rfl rfl rfl c63 <| .ldE (qC (v30) ++ qC (v31)) rfl rfl ly_exact_Point rfl rfl <| .gYf rfl rfl rfl c63 <| .ldE (qC (v35) ++ qC (v36)) rfl rfl ly_exact_Rot rfl rfl <| .gYf rfl rfl rfl c63 <| .callG (C_Point_Turn e69) ⟨rfl, rfl, trivial⟩ trivial trivial <| .gYf rfl rfl rfl c63 <| .callG (C_Point_Cross e71) ⟨rfl, rfl, trivial⟩ trivial trivial <| .gYf rfl rfl rfl c63 <| .ldE (qC (v25) ++ qC (v26)) rfl rfl ly_exact_Point rfl rfl <| .gYf rfl rfl rfl c63 <| .ldE (qC (v30) ++ qC (v31)) rfl rfl ly_exact_Point rfl rfl <| .gYf rfl rfl rfl c63 <| .callG (C_Point_Cross e73) ⟨rfl, rfl, trivial⟩ trivial trivial <| .gYf rfl rfl rfl c63 <| .callG (C_l_same e75) ⟨rfl, rfl, trivial⟩ trivial trivial <| .gYf rfl rfl rfl c63 <| .not rfl <| .pkFb rfl c63 rfl <| .nil) rfl (by kernel_rfl) ?_
          by_cases c76 : (!v74) = true
          · replace h := ite_pos_some c76 h
            refine .cTb rfl c76 ?_
            refine .reg (.asg rfl <| .nil) rfl ?_
            cases h
            refine .retG (fun _ _ hb => hb) rfl (.cons (.tmp rfl) .nil) (.refl _) trivial trivial
          · replace h := ite_neg_some c76 h
            refine .cFb rfl c76 ?_
            refine .skip (Ok.on ?_)
            obtain ⟨⟨v77, v78⟩, e79, h⟩ := bind_some h
            refine .reg (.ldE (qC (v35) ++ qC (v36)) rfl rfl ly_exact_Rot rfl rfl <| .ldE (qC (v38) ++ qC (v39)) rfl rfl ly_exact_Rot rfl rfl <| .callG (C_Rot_Then e79) ⟨rfl, rfl, trivial⟩ trivial trivial <| .alL (qC (0) ++ qC (0)) z_exact_Rot ⟨zq1, zq2, zq3, zq1, zq2, zq3, trivial⟩ rfl <| .stE (qC (v77) ++ qC (v78)) rfl rfl rfl ly_exact_Rot rfl rfl rfl <| .nil) rfl ?_
            obtain ⟨⟨v80, v81⟩, e82, h⟩ := bind_some h
            obtain ⟨⟨v83, v84⟩, e85, h⟩ := bind_some h
            refine .regD hmix (.ldE (qC (v77) ++ qC (v78)) rfl rfl ly_exact_Rot rfl rfl <| .ldE (qC (v38) ++ qC (v39)) rfl rfl ly_exact_Rot rfl rfl <| .callG (C_Rot_Back e82) ⟨rfl, trivial⟩ trivial trivial <| .callG (C_Rot_Then e85) ⟨rfl, rfl, trivial⟩ trivial trivial <| .alL (qC (0) ++ qC (0)) z_exact_Rot ⟨zq1, zq2, zq3, zq1, zq2, zq3, trivial⟩ rfl <| .stE (qC (v83) ++ qC (v84)) rfl rfl rfl ly_exact_Rot rfl rfl rfl <| .nil) rfl (by kernel_rfl) ?_
            obtain ⟨⟨v86, v87⟩, e88, h⟩ := bind_some h
            obtain ⟨⟨v89, v90⟩, e91, h⟩ := bind_some h
            obtain ⟨⟨v92, v93⟩, e94, h⟩ := bind_some h
            refine .regD hmix (.ldE (qC (v25) ++ qC (v26)) rfl rfl ly_exact_Point rfl rfl <| .ldE (qC (v35) ++ qC (v36)) rfl rfl ly_exact_Rot rfl rfl <| .callG (C_Point_Turn e88) ⟨rfl, rfl, trivial⟩ trivial trivial <| .ldE (qC (v38) ++ qC (v39)) rfl rfl ly_exact_Rot rfl rfl <| .callG (C_Point_Turn e91) ⟨rfl, rfl, trivial⟩ trivial trivial <| .ldE (qC (v25) ++ qC (v26)) rfl rfl ly_exact_Point rfl rfl <| .ldE (qC (v77) ++ qC (v78)) rfl rfl ly_exact_Rot rfl rfl <| .callG (C_Point_Turn e94) ⟨rfl, rfl, trivial⟩ trivial trivial <| .alL (qC (0) ++ qC (0)) z_exact_Point ⟨zq1, zq2, zq3, zq1, zq2, zq3, trivial⟩ rfl <| .alL (qC (0) ++ qC (0)) z_exact_Point ⟨zq1, zq2, zq3, zq1, zq2, zq3, trivial⟩ rfl <| .stE (qC (v89) ++ qC (v90)) rfl rfl rfl ly_exact_Point rfl rfl rfl <| .stE (qC (v92) ++ qC (v93)) rfl rfl rfl ly_exact_Point rfl rfl rfl <| .nil) rfl (by kernel_rfl) ?_
            obtain ⟨v95, e96, h⟩ := bind_some h
            by_cases c97 : v95 = true
            · replace h := ite_pos_some c97 h
              obtain ⟨v98, e99, h⟩ := bind_some h
              by_cases c100 : v98 = true
              · replace h := ite_pos_some c100 h
                obtain ⟨v101, e102, h⟩ := bind_some h
                by_cases c103 : v101 = true
                · replace h := ite_pos_some c103 h
                  obtain ⟨v104, e105, h⟩ := bind_some h
                  by_cases c106 : v104 = true
                  · replace h := ite_pos_some c106 h
                    obtain ⟨v107, e108, h⟩ := bind_some h
                    by_cases c109 : v107 = true
                    · replace h := ite_pos_some c109 h
                      obtain ⟨v110, e111, h⟩ := bind_some h
                      refine .reg (.ldE (qC (v77) ++ qC (v78)) rfl rfl ly_exact_Rot rfl rfl <| .callG (C_Rot_Valid e96) ⟨rfl, trivial⟩ trivial trivial <| .mv rfl <| .gYt rfl rfl rfl c97 <| .fa rfl f_exact_Rot_0 <| .gYt rfl rfl rfl c97 <| .ldE (qC (v83)) rfl rfl ly_exact_Q rfl rfl <| .gYt rfl rfl rfl c97 <| .fa rfl f_exact_Rot_0 <| .gYt rfl rfl rfl c97 <| .ldE (qC (v35)) rfl rfl ly_exact_Q rfl rfl <| .gYt rfl rfl rfl c97 <| .callG (C_l_same e99) ⟨rfl, rfl, trivial⟩ trivial trivial <| .pkTb rfl c97 rfl <| .mv rfl <| .gYt rfl rfl rfl c100 <| .fa rfl f_exact_Rot_1 <| .gYt rfl rfl rfl c100 <| .ldE (qC (v84)) rfl rfl ly_exact_Q rfl rfl <| .gYt rfl rfl rfl c100 <| .fa rfl f_exact_Rot_1 <| .gYt rfl rfl rfl c100 <| .ldE (qC (v36)) rfl rfl ly_exact_Q rfl rfl <| .gYt rfl rfl rfl c100 <| .callG (C_l_same e102) ⟨rfl, rfl, trivial⟩ trivial trivial <| .pkTb rfl c100 rfl <| .mv rfl <| .gYt rfl rfl rfl c103 <| .fa rfl f_exact_Point_0 <| .gYt rfl rfl rfl c103 <| .ldE (qC (v89)) rfl rfl ly_exact_Q rfl rfl <| .gYt rfl rfl rfl c103 <| .fa rfl f_exact_Point_0 <| .gYt rfl rfl rfl c103 <| .ldE (qC (v92)) rfl rfl ly_exact_Q rfl rfl <| .gYt rfl rfl rfl c103 <| .callG (C_l_same e105) ⟨rfl, rfl, trivial⟩ trivial trivial <| .pkTb rfl c103 rfl <| .mv rfl <| .gYt rfl rfl rfl c106 <| .fa rfl f_exact_Point_1 <| .gYt rfl rfl rfl c106 <| .ldE (qC (v90)) rfl rfl ly_exact_Q rfl rfl <| .gYt rfl rfl rfl c106 <| .fa rfl f_exact_Point_1 <| .gYt rfl rfl rfl c106 <| .ldE (qC (v93)) rfl rfl ly_exact_Q rfl rfl <| .gYt rfl rfl rfl c106 <| .callG (C_l_same e108) ⟨rfl, rfl, trivial⟩ trivial trivial <| .pkTb rfl c106 rfl <| .mv rfl <| .gYt rfl rfl rfl c109 <| .callG (C_l_awake e111) trivial trivial trivial <| .pkTb rfl c109 rfl <| .asg rfl <| .nil) rfl ?_
                      cases h
                      refine .retG (fun _ _ hb => hb) rfl (.cons (.tmp rfl) .nil) (.refl _) trivial trivial
                    · replace h := ite_neg_some c109 h
                      refine .reg (.ldE (qC (v77) ++ qC (v78)) rfl rfl ly_exact_Rot rfl rfl <| .callG (C_Rot_Valid e96) ⟨rfl, trivial⟩ trivial trivial <| .mv rfl <| .gYt rfl rfl rfl c97 <| .fa rfl f_exact_Rot_0 <| .gYt rfl rfl rfl c97 <| .ldE (qC (v83)) rfl rfl ly_exact_Q rfl rfl <| .gYt rfl rfl rfl c97 <| .fa rfl f_exact_Rot_0 <| .gYt rfl rfl rfl c97 <| .ldE (qC (v35)) rfl rfl ly_exact_Q rfl rfl <| .gYt rfl rfl rfl c97 <| .callG (C_l_same e99) ⟨rfl, rfl, trivial⟩ trivial trivial <| .pkTb rfl c97 rfl <| .mv rfl <| .gYt rfl rfl rfl c100 <| .fa rfl f_exact_Rot_1 <| .gYt rfl rfl rfl c100 <| .ldE (qC (v84)) rfl rfl ly_exact_Q rfl rfl <| .gYt rfl rfl rfl c100 <| .fa rfl f_exact_Rot_1 <| .gYt rfl rfl rfl c100 <| .ldE (qC (v36)) rfl rfl ly_exact_Q rfl rfl <| .gYt rfl rfl rfl c100 <| .callG (C_l_same e102) ⟨rfl, rfl, trivial⟩ trivial trivial <| .pkTb rfl c100 rfl <| .mv rfl <| .gYt rfl rfl rfl c103 <| .fa rfl f_exact_Point_0 <| .gYt rfl rfl rfl c103 <| .ldE (qC (v89)) rfl rfl ly_exact_Q rfl rfl <| .gYt rfl rfl rfl c103 <| .fa rfl f_exact_Point_0 <| .gYt rfl rfl rfl c103 <| .ldE (qC (v92)) rfl rfl ly_exact_Q rfl rfl <| .gYt rfl rfl rfl c103 <| .callG (C_l_same e105) ⟨rfl, rfl, trivial⟩ trivial trivial <| .pkTb rfl c103 rfl <| .mv rfl <| .gYt rfl rfl rfl c106 <| .fa rfl f_exact_Point_1 <| .gYt rfl rfl rfl c106 <| .ldE (qC (v90)) rfl rfl ly_exact_Q rfl rfl <| .gYt rfl rfl rfl c106 <| .fa rfl f_exact_Point_1 <| .gYt rfl rfl rfl c106 <| .ldE (qC (v93)) rfl rfl ly_exact_Q rfl rfl <| .gYt rfl rfl rfl c106 <| .callG (C_l_same e108) ⟨rfl, rfl, trivial⟩ trivial trivial <| .pkTb rfl c106 rfl <| .mv rfl <| .gNt rfl rfl rfl c109 <| .pkFb rfl c109 rfl <| .asg rfl <| .nil) rfl ?_
                      cases h
                      refine .retG (fun _ _ hb => hb) rfl (.cons (.tmp rfl) .nil) (.refl _) trivial trivial
                  · replace h := ite_neg_some c106 h
                    refine .reg (.ldE (qC (v77) ++ qC (v78)) rfl rfl ly_exact_Rot rfl rfl <| .callG (C_Rot_Valid e96) ⟨rfl, trivial⟩ trivial trivial <| .mv rfl <| .gYt rfl rfl rfl c97 <| .fa rfl f_exact_Rot_0 <| .gYt rfl rfl rfl c97 <| .ldE (qC (v83)) rfl rfl ly_exact_Q rfl rfl <| .gYt rfl rfl rfl c97 <| .fa rfl f_exact_Rot_0 <| .gYt rfl rfl rfl c97 <| .ldE (qC (v35)) rfl rfl ly_exact_Q rfl rfl <| .gYt rfl rfl rfl c97 <| .callG (C_l_same e99) ⟨rfl, rfl, trivial⟩ trivial trivial <| .pkTb rfl c97 rfl <| .mv rfl <| .gYt rfl rfl rfl c100 <| .fa rfl f_exact_Rot_1 <| .gYt rfl rfl rfl c100 <| .ldE (qC (v84)) rfl rfl ly_exact_Q rfl rfl <| .gYt rfl rfl rfl c100 <| .fa rfl f_exact_Rot_1 <| .gYt rfl rfl rfl c100 <| .ldE (qC (v36)) rfl rfl ly_exact_Q rfl rfl <| .gYt rfl rfl rfl c100 <| .callG (C_l_same e102) ⟨rfl, rfl, trivial⟩ trivial trivial <| .pkTb rfl c100 rfl <| .mv rfl <| .gYt rfl rfl rfl c103 <| .fa rfl f_exact_Point_0 <| .gYt rfl rfl rfl c103 <| .ldE (qC (v89)) rfl rfl ly_exact_Q rfl rfl <| .gYt rfl rfl rfl c103 <| .fa rfl f_exact_Point_0 <| .gYt rfl rfl rfl c103 <| .ldE (qC (v92)) rfl rfl ly_exact_Q rfl rfl <| .gYt rfl rfl rfl c103 <| .callG (C_l_same e105) ⟨rfl, rfl, trivial⟩ trivial trivial <| .pkTb rfl c103 rfl <| .mv rfl <| .gNt rfl rfl rfl c106 <| .gNt rfl rfl rfl c106 <| .gNt rfl rfl rfl c106 <| .gNt rfl rfl rfl c106 <| .gNt rfl rfl rfl c106 <| .pkFb rfl c106 rfl <| .mv rfl <| .gNt rfl rfl rfl (by decide) <| .pkFb rfl (by decide) rfl <| .asg rfl <| .nil) rfl ?_
                    cases h
                    refine .retG (fun _ _ hb => hb) rfl (.cons (.tmp rfl) .nil) (.refl _) trivial trivial
                · replace h := ite_neg_some c103 h
                  refine .reg (.ldE (qC (v77) ++ qC (v78)) rfl rfl ly_exact_Rot rfl rfl <| .callG (C_Rot_Valid e96) ⟨rfl, trivial⟩ trivial trivial <| .mv rfl <| .gYt rfl rfl rfl c97 <| .fa rfl f_exact_Rot_0 <| .gYt rfl rfl rfl c97 <| .ldE (qC (v83)) rfl rfl ly_exact_Q rfl rfl <| .gYt rfl rfl rfl c97 <| .fa rfl f_exact_Rot_0 <| .gYt rfl rfl rfl c97 <| .ldE (qC (v35)) rfl rfl ly_exact_Q rfl rfl <| .gYt rfl rfl rfl c97 <| .callG (C_l_same e99) ⟨rfl, rfl, trivial⟩ trivial trivial <| .pkTb rfl c97 rfl <| .mv rfl <| .gYt rfl rfl rfl c100 <| .fa rfl f_exact_Rot_1 <| .gYt rfl rfl rfl c100 <| .ldE (qC (v84)) rfl rfl ly_exact_Q rfl rfl <| .gYt rfl rfl rfl c100 <| .fa rfl f_exact_Rot_1 <| .gYt rfl rfl rfl c100 <| .ldE (qC (v36)) rfl rfl ly_exact_Q rfl rfl <| .gYt rfl rfl rfl c100 <| .callG (C_l_same e102) ⟨rfl, rfl, trivial⟩ trivial trivial <| .pkTb rfl c100 rfl <| .mv rfl <| .gNt rfl rfl rfl c103 <| .gNt rfl rfl rfl c103 <| .gNt rfl rfl rfl c103 <| .gNt rfl rfl rfl c103 <| .gNt rfl rfl rfl c103 <| .pkFb rfl c103 rfl <| .mv rfl <| .gNt rfl rfl rfl (by decide) <| .gNt rfl rfl rfl (by decide) <| .gNt rfl rfl rfl (by decide) <| .gNt rfl rfl rfl (by decide) <| .gNt rfl rfl rfl (by decide) <| .pkFb rfl (by decide) rfl <| .mv rfl <| .gNt rfl rfl rfl (by decide) <| .pkFb rfl (by decide) rfl <| .asg rfl <| .nil) rfl ?_
                  cases h
                  refine .retG (fun _ _ hb => hb) rfl (.cons (.tmp rfl) .nil) (.refl _) trivial trivial
              · replace h := ite_neg_some c100 h
                refine .reg (.ldE (qC (v77) ++ qC (v78)) rfl rfl ly_exact_Rot rfl rfl <| .callG (C_Rot_Valid e96) ⟨rfl, trivial⟩ trivial trivial <| .mv rfl <| .gYt rfl rfl rfl c97 <| .fa rfl f_exact_Rot_0 <| .gYt rfl rfl rfl c97 <| .ldE (qC (v83)) rfl rfl ly_exact_Q rfl rfl <| .gYt rfl rfl rfl c97 <| .fa rfl f_exact_Rot_0 <| .gYt rfl rfl rfl c97 <| .ldE (qC (v35)) rfl rfl ly_exact_Q rfl rfl <| .gYt rfl rfl rfl c97 <| .callG (C_l_same e99) ⟨rfl, rfl, trivial⟩ trivial trivial <| .pkTb rfl c97 rfl <| .mv rfl <| .gNt rfl rfl rfl c100 <| .gNt rfl rfl rfl c100 <| .gNt rfl rfl rfl c100 <| .gNt rfl rfl rfl c100 <| .gNt rfl rfl rfl c100 <| .pkFb rfl c100 rfl <| .mv rfl <| .gNt rfl rfl rfl (by decide) <| .gNt rfl rfl rfl (by decide) <| .gNt rfl rfl rfl (by decide) <| .gNt rfl rfl rfl (by decide) <| .gNt rfl rfl rfl (by decide) <| .pkFb rfl (by decide) rfl <| .mv rfl <| .gNt rfl rfl rfl (by decide) <| .gNt rfl rfl rfl (by decide) <| .gNt rfl rfl rfl (by decide) <| .gNt rfl rfl rfl (by decide) <| .gNt rfl rfl rfl (by decide) <| .pkFb rfl (by decide) rfl <| .mv rfl <| .gNt rfl rfl rfl (by decide) <| .pkFb rfl (by decide) rfl <| .asg rfl <| .nil) rfl ?_
                cases h
                refine .retG (fun _ _ hb => hb) rfl (.cons (.tmp rfl) .nil) (.refl _) trivial trivial
            · replace h := ite_neg_some c97 h
              refine .reg (.ldE (qC (v77) ++ qC (v78)) rfl rfl ly_exact_Rot rfl rfl <| .callG (C_Rot_Valid e96) ⟨rfl, trivial⟩ trivial trivial <| .mv rfl <| .gNt rfl rfl rfl c97 <| .gNt rfl rfl rfl c97 <| .gNt rfl rfl rfl c97 <| .gNt rfl rfl rfl c97 <| .gNt rfl rfl rfl c97 <| .pkFb rfl c97 rfl <| .mv rfl <| .gNt rfl rfl rfl (by decide) <| .gNt rfl rfl rfl (by decide) <| .gNt rfl rfl rfl (by decide) <| .gNt rfl rfl rfl (by decide) <| .gNt rfl rfl rfl (by decide) <| .pkFb rfl (by decide) rfl <| .mv rfl <| .gNt rfl rfl rfl (by decide) <| .gNt rfl rfl rfl (by decide) <| .gNt rfl rfl rfl (by decide) <| .gNt rfl rfl rfl (by decide) <| .gNt rfl rfl rfl (by decide) <| .pkFb rfl (by decide) rfl <| .mv rfl <| .gNt rfl rfl rfl (by decide) <| .gNt rfl rfl rfl (by decide) <| .gNt rfl rfl rfl (by decide) <| .gNt rfl rfl rfl (by decide) <| .gNt rfl rfl rfl (by decide) <| .pkFb rfl (by decide) rfl <| .mv rfl <| .gNt rfl rfl rfl (by decide) <| .pkFb rfl (by decide) rfl <| .asg rfl <| .nil) rfl ?_
              cases h
              refine .retG (fun _ _ hb => hb) rfl (.cons (.tmp rfl) .nil) (.refl _) trivial trivial
end
end Go.Am
namespace Go.Am
theorem Turns_true (a1 a2 a3 a4 a5 a6 a7 a8 a9 a10 a11 a12 a13 a14 a15 a16 a17 a18 : Int)
    (h1 : i64r a1) (h2 : i64r a2) (h3 : 0 ≤ a3 ∧ a3 ≤ 255) (h4 : i64r a4) (h5 : i64r a5) (h6 : 0 ≤ a6 ∧ a6 ≤ 255) (h7 : i64r a7) (h8 : i64r a8) (h9 : 0 ≤ a9 ∧ a9 ≤ 255) (h10 : i64r a10) (h11 : i64r a11) (h12 : 0 ≤ a12 ∧ a12 ≤ 255)
    (h13 : i64r a13) (h14 : i64r a14) (h15 : 0 ≤ a15 ∧ a15 ≤ 255) (h16 : i64r a16) (h17 : i64r a17) (h18 : 0 ≤ a18 ∧ a18 ≤ 255) : m_l_ExactTurns a1 a2 a3 a4 a5 a6 a7 a8 a9 a10 a11 a12 a13 a14 a15 a16 a17 a18 = some true := by
  obtain ⟨e1, s1⟩ := Both_is a1 a2 a3 h1 h2 h3
  obtain ⟨e2, s2⟩ := Both_is a4 a5 a6 h4 h5 h6
  obtain ⟨p1, p2, e3, s3, s3'⟩ := BothPoints_is a7 a8 a9 a10 a11 a12 h7 h8 h9 h10 h11 h12
  obtain ⟨q1, q2, e4, s4, s4'⟩ := BothPoints_is a13 a14 a15 a16 a17 a18 h13 h14 h15 h16 h17 h18
  unfold m_l_ExactTurns
  rw [e1, e2, e3, e4]
  generalize bothX a1 a2 a3 = t at *
  generalize bothX a4 a5 a6 = v at *
  haveI : Bd t 256 := ⟨s1⟩
  haveI : Bd v 256 := ⟨s2⟩
  haveI : Bd p1 256 := ⟨s3⟩
  haveI : Bd p2 256 := ⟨s3'⟩
  haveI : Bd q1 256 := ⟨s4⟩
  haveI : Bd q2 256 := ⟨s4'⟩
  have n1 := one_sq t
  have n2 := one_sq v
  have T1 : m_Turn t = some ((1 - t * t) / (1 + t * t), (t + t) / (1 + t * t)) := by
    unfold m_Turn
    simp only [Option.bind_some, q_one, q_addB, q_subB, q_mulB, q_overB n1, Nat.reduceAdd, Nat.reduceLeDiff]
  have T2 : m_Turn v = some ((1 - v * v) / (1 + v * v), (v + v) / (1 + v * v)) := by
    unfold m_Turn
    simp only [Option.bind_some, q_one, q_addB, q_subB, q_mulB, q_overB n2, Nat.reduceAdd, Nat.reduceLeDiff]
  have C1 : ((1 - t * t) / (1 + t * t)) * ((1 - t * t) / (1 + t * t)) + ((t + t) / (1 + t * t)) * ((t + t) / (1 + t * t)) = 1 := by grind
  have C2 : ((1 - v * v) / (1 + v * v)) * ((1 - v * v) / (1 + v * v)) + ((v + v) / (1 + v * v)) * ((v + v) / (1 + v * v)) = 1 := by grind
  have H0 : 1 + (1 - t * t) / (1 + t * t) ≠ 0 := by
    have : 1 + (1 - t * t) / (1 + t * t) = 2 / (1 + t * t) := by grind
    rw [this]; grind
  have H1 : ((t + t) / (1 + t * t)) / (1 + (1 - t * t) / (1 + t * t)) = t := by grind
  haveI : Bd ((1 - t * t) / (1 + t * t)) 2000 := ⟨by have := (inferInstance : Bd ((1 - t * t) / (1 + t * t)) _).le; omega⟩
  haveI : Bd ((t + t) / (1 + t * t)) 2000 := ⟨by have := (inferInstance : Bd ((t + t) / (1 + t * t)) _).le; omega⟩
  haveI : Bd ((1 - v * v) / (1 + v * v)) 2000 := ⟨by have := (inferInstance : Bd ((1 - v * v) / (1 + v * v)) _).le; omega⟩
  haveI : Bd ((v + v) / (1 + v * v)) 2000 := ⟨by have := (inferInstance : Bd ((v + v) / (1 + v * v)) _).le; omega⟩
  rw [Option.bind_some]
  simp only [Option.bind_some, T1, T2]
  generalize (1 - t * t) / (1 + t * t) = c at *
  generalize (t + t) / (1 + t * t) = s at *
  generalize (1 - v * v) / (1 + v * v) = d at *
  generalize (v + v) / (1 + v * v) = r at *
  have k1 : (c * p1 - s * p2) * (c * q1 - s * q2) + (s * p1 + c * p2) * (s * q1 + c * q2) = p1 * q1 + p2 * q2 := by grind
  have k2 : (c * p1 - s * p2) * (s * q1 + c * q2) - (s * p1 + c * p2) * (c * q1 - s * q2) = p1 * q2 - p2 * q1 := by grind
  have k3 : (c * d - s * r) * (c * d - s * r) + (s * d + c * r) * (s * d + c * r) = 1 := by grind
  have k4 : (c * d - s * r) * d - (s * d + c * r) * -r = c := by grind
  have k5 : (s * d + c * r) * d + (c * d - s * r) * -r = s := by grind
  have k6 : (c * d - s * r) * p1 - (s * d + c * r) * p2 = d * (c * p1 - s * p2) - r * (s * p1 + c * p2) := by grind
  have k7 : (s * d + c * r) * p1 + (c * d - s * r) * p2 = r * (c * p1 - s * p2) + d * (s * p1 + c * p2) := by grind
  have z1 : cmpq 1 1 = 0 := by decide +kernel
  simp only [Option.bind_some, m_Rot_Half, m_Rot_Valid, m_Point_Turn, m_Point_Dot, m_Point_Cross, m_Rot_Then, m_Rot_Back, q_one, q_addB, q_subB, q_mulB, q_divB, q_cmpB, q_neg, if_neg H0, H1, C1, same_B, k1, k2, k3, k4, k5, k6, k7, z1, Nat.reduceAdd, Nat.reduceLeDiff, awake_true, beq_self_eq_true, Bool.not_true, Bool.false_eq_true, if_false, if_true]
end Go.Am
