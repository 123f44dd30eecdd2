/- ExactZeros: the walk of the law, and its plain law: it returns true for every input. No condition. -/
import Derived.Test.YtgnepgenefcnpaaGreatDoorBeH
set_option linter.unusedVariables false
set_option linter.unusedSimpArgs false
namespace Go.Am
open Go.RowKit
set_option maxRecDepth 100000
noncomputable section
def m_l_ExactZeros_l1 (v19 : Rat) (v22 : Rat) (v25 : Rat) (v36 : List (Rat × Rat × Rat)) (v51 : Int) : Option (St Int (Ex Unit Bool)) := (if (decide (v51 < (v36.length : Int))) = true then ((ix v36 v51).bind fun (v59, v60, v61) => (m_l_value v19 v22 v25 v59 v60 v61).bind fun (v63, v64, v65) => (m_Surd_Sign v63 v64 v65).bind fun (v67, v68) => (if (v68 != 0) = true then some (Ex.ret false) else (if (v67 != 0) = true then some (Ex.ret false) else (ix v36 v51).bind fun (v72, v73, v74) => (m_Surd_Normal v72 v73 v74).bind fun ((v76, v77, v78), v79) => (if (v79 != 0) = true then some (Ex.ret false) else (ix v36 v51).bind fun (v82, v83, v84) => (m_l_same v76 v82).bind fun v86 => (if (!v86) = true then some (Ex.ret false) else (ix v36 v51).bind fun (v89, v90, v91) => (m_l_same v77 v90).bind fun v93 => (if (!v93) = true then some (Ex.ret false) else (ix v36 v51).bind fun (v96, v97, v98) => (m_l_same v78 v98).bind fun v100 => (if (!v100) = true then some (Ex.ret false) else (if (decide (v51 > 0)) = true then (ix v36 (IntKind.i64.wrap (v51 - 1))).bind fun (v104, v105, v106) => (ix v36 v51).bind fun (v108, v109, v110) => (m_Surd_Cmp v104 v105 v106 v108 v109 v110).bind fun (v112, v113) => (if (v113 != 0) = true then some (Ex.ret false) else (if (decide (v112 ≥ 0)) = true then some (Ex.ret false) else some (Ex.brk ()))) else some (Ex.brk ()))))))))).bind fun o57 => (match o57 with | Ex.brk () => some (St.next (IntKind.i64.wrap (v51 + 1))) | Ex.ret r117 => some (St.done (Ex.ret r117))) else some (St.done (Ex.brk ())))
def m_l_ExactZeros_l2 (v28 : Rat) (v29 : Rat) (v30 : Rat) (v36 : List (Rat × Rat × Rat)) (v131 : Bool) (v132 : Int) : Option (St (Bool × Int) Bool) := (if (decide (v132 < (v36.length : Int))) = true then ((ix v36 v132).bind fun (v140, v141, v142) => (m_Surd_Cmp v28 v29 v30 v140 v141 v142).bind fun (v144, v145) => (if v131 = true then some (true) else some ((v144 == 0)))).bind fun v148 => some (St.next (v148, (IntKind.i64.wrap (v132 + 1)))) else some (St.done v131))
def m_l_ExactZeros (a1 : Int) (a2 : Int) (a3 : Int) (a4 : Int) (a5 : Int) (a6 : Int) (a7 : Int) (a8 : Int) (a9 : Int) (a10 : Int) (a11 : Int) (a12 : Int) (a13 : Int) (a14 : Int) (a15 : Int) (a16 : Int) (a17 : Int) (a18 : Int) : Option Bool := (m_l_Both a1 a2 a3).bind fun (v19, v20) => (m_l_Both a4 a5 a6).bind fun (v22, v23) => (m_l_Both a7 a8 a9).bind fun (v25, v26) => (m_l_both a10 a11 a12 a13 a14 a15 a16 a17 a18).bind fun ((v28, v29, v30), (v31, v32, v33), v34) => (m_Roots v19 v22 v25).bind fun (v36, v37) => (if (v37 != 0) = true then (if (v37 == 10) = true then (q_sign v19).bind fun v41 => (if (v41 == 0) = true then (q_sign v22).bind fun v44 => (if (v44 == 0) = true then (q_sign v25).bind fun v47 => some (v47 == 0) else some false) else some false) else some false) else ((Loop (fun (s : Int) => m_l_ExactZeros_l1 v19 v22 v25 v36 s) 0).bind fun o52 => (match o52 with | Ex.brk () => some (Ex.brk ()) | Ex.ret r118 => some (Ex.ret r118))).bind fun o49 => (match o49 with | Ex.brk () => (if (!v34) = true then (m_l_awake).bind fun v120 => some v120 else (m_l_value v19 v22 v25 v28 v29 v30).bind fun (v122, v123, v124) => (m_Surd_Sign v122 v123 v124).bind fun (v126, v127) => ((Loop (fun (s : Bool × Int) => m_l_ExactZeros_l2 v28 v29 v30 v36 s.1 s.2) (false, 0)).bind fun v149 => some (v149)).bind fun v150 => (if (v150 == (v126 == 0)) = true then (m_l_awake).bind fun v152 => some v152 else some false)) | Ex.ret r154 => some r154))
theorem C_l_ExactZeros {a1 : Int} {a2 : Int} {a3 : Int} {a4 : Int} {a5 : Int} {a6 : Int} {a7 : Int} {a8 : Int} {a9 : Int} {a10 : Int} {a11 : Int} {a12 : Int} {a13 : Int} {a14 : Int} {a15 : Int} {a16 : Int} {a17 : Int} {a18 : Int} {r155 : Bool} (h : m_l_ExactZeros a1 a2 a3 a4 a5 a6 a7 a8 a9 a10 a11 a12 a13 a14 a15 a16 a17 a18 = some r155) : CtrG PP 15 [] [D.agg ([D.int .i64 a1, D.int .i64 a2, D.int .u8 a3]), D.agg ([D.int .i64 a4, D.int .i64 a5, D.int .u8 a6]), D.agg ([D.int .i64 a7, D.int .i64 a8, D.int .u8 a9]), D.agg ([D.int .i64 a10, D.int .i64 a11, D.int .u8 a12, D.int .i64 a13, D.int .i64 a14, D.int .u8 a15, D.int .i64 a16, D.int .i64 a17, D.int .u8 a18])] [] (D.bool r155) := by
  unfold m_l_ExactZeros at h
  refine .of Go.Proofs.Tryz.func15 rfl (by kernel_rfl) rfl rfl rfl rfl rfl rfl (fun A w0 L b => ?_)
  show Ok PP _ [(0, D.agg ([D.int .i64 a1, D.int .i64 a2, D.int .u8 a3])), (1, D.agg ([D.int .i64 a4, D.int .i64 a5, D.int .u8 a6])), (2, D.agg ([D.int .i64 a7, D.int .i64 a8, D.int .u8 a9])), (3, D.agg ([D.int .i64 a10, D.int .i64 a11, D.int .u8 a12, D.int .i64 a13, D.int .i64 a14, D.int .u8 a15, D.int .i64 a16, D.int .i64 a17, D.int .u8 a18]))] [] _ _
  refine .reg (.bxA rfl rfl <| .bxA rfl rfl <| .bxA rfl rfl <| .bxA rfl rfl <| .asg rfl <| .nil) rfl ?_
  obtain ⟨⟨v19, v20⟩, e21, h⟩ := bind_some h
  refine .reg (.ldE ([D.int .i64 a1, D.int .i64 a2, D.int .u8 a3]) rfl rfl ly_amblelaw01_Num rfl rfl <| .callG (C_l_Both e21) ⟨rfl, trivial⟩ trivial trivial <| .mv rfl <| .ext rfl rfl <| .ext rfl rfl <| .alL (qC (0)) z_exact_Q ⟨zq1, zq2, zq3, trivial⟩ rfl <| .alL (rqC (0)) z_ambleref01_Q ⟨zr1, zr2, .refl _, zr4, trivial⟩ rfl <| .stE (qC (v19)) rfl rfl rfl ly_exact_Q rfl rfl rfl <| .stE (rqC (v20)) rfl rfl rfl ly_ambleref01_Q rfl rfl rfl <| .nil) rfl ?_
  obtain ⟨⟨v22, v23⟩, e24, h⟩ := bind_some h
  refine .reg (.ldE ([D.int .i64 a4, D.int .i64 a5, D.int .u8 a6]) rfl rfl ly_amblelaw01_Num rfl rfl <| .callG (C_l_Both e24) ⟨rfl, trivial⟩ trivial trivial <| .mv rfl <| .ext rfl rfl <| .ext rfl rfl <| .alL (qC (0)) z_exact_Q ⟨zq1, zq2, zq3, trivial⟩ rfl <| .alL (rqC (0)) z_ambleref01_Q ⟨zr1, zr2, .refl _, zr4, trivial⟩ rfl <| .stE (qC (v22)) rfl rfl rfl ly_exact_Q rfl rfl rfl <| .stE (rqC (v23)) rfl rfl rfl ly_ambleref01_Q rfl rfl rfl <| .nil) rfl ?_
  obtain ⟨⟨v25, v26⟩, e27, h⟩ := bind_some h
  refine .reg (.ldE ([D.int .i64 a7, D.int .i64 a8, D.int .u8 a9]) rfl rfl ly_amblelaw01_Num rfl rfl <| .callG (C_l_Both e27) ⟨rfl, trivial⟩ trivial trivial <| .mv rfl <| .ext rfl rfl <| .ext rfl rfl <| .alL (qC (0)) z_exact_Q ⟨zq1, zq2, zq3, trivial⟩ rfl <| .alL (rqC (0)) z_ambleref01_Q ⟨zr1, zr2, .refl _, zr4, trivial⟩ rfl <| .stE (qC (v25)) rfl rfl rfl ly_exact_Q rfl rfl rfl <| .stE (rqC (v26)) rfl rfl rfl ly_ambleref01_Q rfl rfl rfl <| .nil) rfl ?_
  obtain ⟨⟨⟨v28, v29, v30⟩, ⟨v31, v32, v33⟩, v34⟩, e35, h⟩ := bind_some h
  refine .reg (.ldE ([D.int .i64 a10, D.int .i64 a11, D.int .u8 a12, D.int .i64 a13, D.int .i64 a14, D.int .u8 a15, D.int .i64 a16, D.int .i64 a17, D.int .u8 a18]) rfl rfl ly_amblelaw01_Root rfl rfl <| .callG (C_l_both e35) ⟨rfl, trivial⟩ trivial trivial <| .mv rfl <| .ext rfl rfl <| .ext rfl rfl <| .ext rfl rfl <| .alL (qC (0) ++ qC (0) ++ qC (0)) z_exact_Surd ⟨zq1, zq2, zq3, zq1, zq2, zq3, zq1, zq2, zq3, trivial⟩ rfl <| .alL (rqC (0) ++ rqC (0) ++ rqC (0)) z_ambleref01_Surd ⟨zr1, zr2, .refl _, zr4, zr1, zr2, .refl _, zr4, zr1, zr2, .refl _, zr4, trivial⟩ rfl <| .stE (qC (v28) ++ qC (v29) ++ qC (v30)) rfl rfl rfl ly_exact_Surd rfl rfl rfl <| .stE (rqC (v31) ++ rqC (v32) ++ rqC (v33)) rfl rfl rfl ly_ambleref01_Surd rfl rfl rfl <| .asg rfl <| .nil) rfl ?_
  obtain ⟨⟨v36, v37⟩, e38, h⟩ := bind_some h
  refine .reg (.ldE (qC (v19)) rfl rfl ly_exact_Q rfl rfl <| .ldE (qC (v22)) rfl rfl ly_exact_Q rfl rfl <| .ldE (qC (v25)) rfl rfl ly_exact_Q rfl rfl <| .callG (C_Roots e38) ⟨rfl, rfl, rfl, trivial⟩ trivial trivial <| .mv rfl <| .ext rfl rfl <| .ext rfl rfl <| .asg rfl <| .asg rfl <| .nil) rfl ?_
  refine .sq ?_
  refine .reg (.mv rfl <| .cm rfl rfl rfl <| .nil) rfl ?_
  by_cases c39 : (v37 != 0) = true
  · replace h := ite_pos_some c39 h
    refine .cTb rfl c39 ?_
    by_cases c40 : (v37 == 10) = true
    · replace h := ite_pos_some c40 h
      obtain ⟨v41, e42, h⟩ := bind_some h
      by_cases c43 : (v41 == 0) = true
      · replace h := ite_pos_some c43 h
        obtain ⟨v44, e45, h⟩ := bind_some h
        by_cases c46 : (v44 == 0) = true
        · replace h := ite_pos_some c46 h
          obtain ⟨v47, e48, h⟩ := bind_some h
          refine .reg (.mv rfl <| .cm rfl rfl rfl <| .mv rfl <| .gYt rfl rfl rfl c40 <| .ldE (qC (v19)) rfl rfl ly_exact_Q rfl rfl <| .gYt rfl rfl rfl c40 <| .callG (Q_sign e42) ⟨rfl, trivial⟩ trivial trivial <| .gYt rfl rfl rfl c40 <| .cm rfl rfl rfl <| .pkTb rfl c40 rfl <| .mv rfl <| .gYt rfl rfl rfl c43 <| .ldE (qC (v22)) rfl rfl ly_exact_Q rfl rfl <| .gYt rfl rfl rfl c43 <| .callG (Q_sign e45) ⟨rfl, trivial⟩ trivial trivial <| .gYt rfl rfl rfl c43 <| .cm rfl rfl rfl <| .pkTb rfl c43 rfl <| .mv rfl <| .gYt rfl rfl rfl c46 <| .ldE (qC (v25)) rfl rfl ly_exact_Q rfl rfl <| .gYt rfl rfl rfl c46 <| .callG (Q_sign e48) ⟨rfl, trivial⟩ trivial trivial <| .gYt rfl rfl rfl c46 <| .cm rfl rfl rfl <| .pkTb rfl c46 rfl <| .asg rfl <| .nil) rfl ?_
          cases h
          refine .retG (fun _ _ hb => hb) rfl (.cons (.tmp rfl) .nil) (.refl _) trivial trivial
        · replace h := ite_neg_some c46 h
          refine .reg (.mv rfl <| .cm rfl rfl rfl <| .mv rfl <| .gYt rfl rfl rfl c40 <| .ldE (qC (v19)) rfl rfl ly_exact_Q rfl rfl <| .gYt rfl rfl rfl c40 <| .callG (Q_sign e42) ⟨rfl, trivial⟩ trivial trivial <| .gYt rfl rfl rfl c40 <| .cm rfl rfl rfl <| .pkTb rfl c40 rfl <| .mv rfl <| .gYt rfl rfl rfl c43 <| .ldE (qC (v22)) rfl rfl ly_exact_Q rfl rfl <| .gYt rfl rfl rfl c43 <| .callG (Q_sign e45) ⟨rfl, trivial⟩ trivial trivial <| .gYt rfl rfl rfl c43 <| .cm rfl rfl rfl <| .pkTb rfl c43 rfl <| .mv rfl <| .gNt rfl rfl rfl c46 <| .gNt rfl rfl rfl c46 <| .gNt rfl rfl rfl c46 <| .pkFb rfl c46 rfl <| .asg rfl <| .nil) rfl ?_
          cases h
          refine .retG (fun _ _ hb => hb) rfl (.cons (.tmp rfl) .nil) (.refl _) trivial trivial
      · replace h := ite_neg_some c43 h
        refine .reg (.mv rfl <| .cm rfl rfl rfl <| .mv rfl <| .gYt rfl rfl rfl c40 <| .ldE (qC (v19)) rfl rfl ly_exact_Q rfl rfl <| .gYt rfl rfl rfl c40 <| .callG (Q_sign e42) ⟨rfl, trivial⟩ trivial trivial <| .gYt rfl rfl rfl c40 <| .cm rfl rfl rfl <| .pkTb rfl c40 rfl <| .mv rfl <| .gNt rfl rfl rfl c43 <| .gNt rfl rfl rfl c43 <| .gNt rfl rfl rfl c43 <| .pkFb rfl c43 rfl <| .mv rfl <| .gNt rfl rfl rfl (by decide) <| .gNt rfl rfl rfl (by decide) <| .gNt rfl rfl rfl (by decide) <| .pkFb rfl (by decide) rfl <| .asg rfl <| .nil) rfl ?_
        cases h
        refine .retG (fun _ _ hb => hb) rfl (.cons (.tmp rfl) .nil) (.refl _) trivial trivial
    · replace h := ite_neg_some c40 h
      refine .reg (.mv rfl <| .cm rfl rfl rfl <| .mv rfl <| .gNt rfl rfl rfl c40 <| .gNt rfl rfl rfl c40 <| .gNt rfl rfl rfl c40 <| .pkFb rfl c40 rfl <| .mv rfl <| .gNt rfl rfl rfl (by decide) <| .gNt rfl rfl rfl (by decide) <| .gNt rfl rfl rfl (by decide) <| .pkFb rfl (by decide) rfl <| .mv rfl <| .gNt rfl rfl rfl (by decide) <| .gNt rfl rfl rfl (by decide) <| .gNt rfl rfl rfl (by decide) <| .pkFb rfl (by decide) rfl <| .asg rfl <| .nil) rfl ?_
      cases h
      refine .retG (fun _ _ hb => hb) rfl (.cons (.tmp rfl) .nil) (.refl _) trivial trivial
  · replace h := ite_neg_some c39 h
    refine .cFb rfl c39 ?_
    refine .skip (Ok.on ?_)
    obtain ⟨o49, hp50, h⟩ := bind_some h
    refine .cutX (fun i => o49 = Ex.brk i) (fun (i : Unit) => [(9, D.ref 9 0), (11, D.ref 11 0), (13, D.ref 13 0), (15, D.ref 15 0), (17, D.bool v34), (18, slcE (Enc.prod Enc.rat (Enc.prod Enc.rat Enc.rat)) v36)]) (fun (i : Unit) => [(9, Hp.box 28 (qC (v19))), (11, Hp.box 28 (qC (v22))), (13, Hp.box 28 (qC (v25))), (15, Hp.box 126 (qC (v28) ++ qC (v29) ++ qC (v30)))]) ?_ ?_
    · have ho1 := h
      clear h
      have h := hp50
      clear hp50
      refine .reg (.asg rfl <| .nil) rfl ?_
      obtain ⟨o52, hl53, h⟩ := bind_some h
      have ho2 := h
      clear h
      refine .block (.loopL (fun (s : Int) => [(9, D.ref 9 0), (11, D.ref 11 0), (13, D.ref 13 0), (15, D.ref 15 0), (17, D.bool v34), (18, slcE (Enc.prod Enc.rat (Enc.prod Enc.rat Enc.rat)) v36), (20, D.int .i64 s)]) (fun (s : Int) => [(9, Hp.box 28 (qC (v19))), (11, Hp.box 28 (qC (v22))), (13, Hp.box 28 (qC (v25))), (15, Hp.box 126 (qC (v28) ++ qC (v29) ++ qC (v30)))]) hl53 ⟨⟨_, rfl, .refl _⟩, ⟨_, rfl, .refl _⟩, ⟨_, rfl, .refl _⟩, ⟨_, rfl, .refl _⟩, ⟨_, rfl, .refl _⟩, ⟨_, rfl, .refl _⟩, ⟨_, rfl, .refl _⟩, trivial⟩ ⟨⟨_, rfl, .refl _⟩, ⟨_, rfl, .refl _⟩, ⟨_, rfl, .refl _⟩, ⟨_, rfl, .refl _⟩, trivial⟩ rfl rfl ?_)
      rintro v51 st54 hb55
      have h : m_l_ExactZeros_l1 v19 v22 v25 v36 v51 = some st54 := hb55
      clear hb55
      unfold m_l_ExactZeros_l1 at h
      show Ok PP _ [(9, D.ref 9 0), (11, D.ref 11 0), (13, D.ref 13 0), (15, D.ref 15 0), (17, D.bool v34), (18, slcE (Enc.prod Enc.rat (Enc.prod Enc.rat Enc.rat)) v36), (20, D.int .i64 v51)] [(9, Hp.box 28 (qC (v19))), (11, Hp.box 28 (qC (v22))), (13, Hp.box 28 (qC (v25))), (15, Hp.box 126 (qC (v28) ++ qC (v29) ++ qC (v30)))] _ _
      refine .sq ?_
      refine .reg (.mv rfl <| .mv rfl <| .lnE rfl is_Lexact_Surd <| .cm rfl rfl rfl <| .nil) rfl ?_
      by_cases c56 : (decide (v51 < (v36.length : Int))) = true
      · replace h := ite_pos_some c56 h
        refine .cTb rfl c56 ?_
        refine .skip (Ok.on ?_)
        obtain ⟨o57, hp58, h⟩ := bind_some h
        refine .cutX (fun i => o57 = Ex.brk i) (fun (i : Unit) => [(9, D.ref 9 0), (11, D.ref 11 0), (13, D.ref 13 0), (15, D.ref 15 0), (17, D.bool v34), (18, slcE (Enc.prod Enc.rat (Enc.prod Enc.rat Enc.rat)) v36), (20, D.int .i64 v51)]) (fun (i : Unit) => [(9, Hp.box 28 (qC (v19))), (11, Hp.box 28 (qC (v22))), (13, Hp.box 28 (qC (v25))), (15, Hp.box 126 (qC (v28) ++ qC (v29) ++ qC (v30)))]) ?_ ?_
        · have ho3 := h
          clear h
          have h := hp58
          clear hp58
          refine .block ?_
          obtain ⟨⟨v59, v60, v61⟩, e62, h⟩ := bind_some h
          obtain ⟨⟨v63, v64, v65⟩, e66, h⟩ := bind_some h
          obtain ⟨⟨v67, v68⟩, e69, h⟩ := bind_some h
          refine .regD hmix (.ldE (qC (v19)) rfl rfl ly_exact_Q rfl rfl <| .ldE (qC (v22)) rfl rfl ly_exact_Q rfl rfl <| .ldE (qC (v25)) rfl rfl ly_exact_Q rfl rfl <| .mv rfl <| .mv rfl <| .ixE rfl rfl se_Lexact_Surd (ix_some e62).1 (ix_some e62).2 <| .lpE (l := qC (v59) ++ qC (v60) ++ qC (v61)) rfl ly_exact_Surd rfl <| .callG (C_l_value e66) ⟨rfl, rfl, rfl, rfl, trivial⟩ trivial trivial <| .callG (C_Surd_Sign e69) ⟨rfl, trivial⟩ trivial trivial <| .mv rfl <| .ext rfl rfl <| .ext rfl rfl <| .asg rfl <| .asg rfl <| .nil) rfl (by kernel_rfl) ?_
          refine .sq ?_
          by_cases c70 : (v68 != 0) = true
          · replace h := ite_pos_some c70 h
            refine .reg (.mv rfl <| .cm rfl rfl rfl <| .mv rfl <| .gNf rfl rfl rfl c70 <| .gNf rfl rfl rfl c70 <| .pkTb rfl c70 rfl <| .nil) rfl ?_
            refine .cTb rfl rfl ?_
            refine .reg (.asg rfl <| .nil) rfl ?_
            cases h
            have h := ho3
            clear ho3
            refine .retG (Hi := []) (Ho := []) (b := b) (fn := Go.Proofs.Tryz.f15) (d := D.bool false) (fun _ _ hb => by exact ⟨_, (Option.some.inj h).symm, fun e => by subst e; have h := ho2; cases h; have h := ho1; cases h; exact hb⟩) rfl (.cons (.tmp rfl) .nil) (.refl _) trivial trivial
          · replace h := ite_neg_some c70 h
            refine .reg (.mv rfl <| .cm rfl rfl rfl <| .mv rfl <| .gYf rfl rfl rfl c70 <| .mv rfl <| .gYf rfl rfl rfl c70 <| .cm rfl rfl rfl <| .pkFb rfl c70 rfl <| .nil) rfl ?_
            by_cases c71 : (v67 != 0) = true
            · replace h := ite_pos_some c71 h
              refine .cTb rfl c71 ?_
              refine .reg (.asg rfl <| .nil) rfl ?_
              cases h
              have h := ho3
              clear ho3
              refine .retG (Hi := []) (Ho := []) (b := b) (fn := Go.Proofs.Tryz.f15) (d := D.bool false) (fun _ _ hb => by exact ⟨_, (Option.some.inj h).symm, fun e => by subst e; have h := ho2; cases h; have h := ho1; cases h; exact hb⟩) rfl (.cons (.tmp rfl) .nil) (.refl _) trivial trivial
            · replace h := ite_neg_some c71 h
              refine .cFb rfl c71 ?_
              refine .skip (Ok.on ?_)
              obtain ⟨⟨v72, v73, v74⟩, e75, h⟩ := bind_some h
              obtain ⟨⟨⟨v76, v77, v78⟩, v79⟩, e80, h⟩ := bind_some h
              refine .reg (.mv rfl <| .mv rfl <| .ixE rfl rfl se_Lexact_Surd (ix_some e75).1 (ix_some e75).2 <| .lpE (l := qC (v72) ++ qC (v73) ++ qC (v74)) rfl ly_exact_Surd rfl <| .callG (C_Surd_Normal e80) ⟨rfl, trivial⟩ trivial trivial <| .mv rfl <| .ext rfl rfl <| .ext rfl rfl <| .alL (qC (0) ++ qC (0) ++ qC (0)) z_exact_Surd ⟨zq1, zq2, zq3, zq1, zq2, zq3, zq1, zq2, zq3, trivial⟩ rfl <| .stE (qC (v76) ++ qC (v77) ++ qC (v78)) rfl rfl rfl ly_exact_Surd rfl rfl rfl <| .asg rfl <| .nil) rfl ?_
              refine .sq ?_
              by_cases c81 : (v79 != 0) = true
              · replace h := ite_pos_some c81 h
                refine .regD hmix (.mv rfl <| .cm rfl rfl rfl <| .mv rfl <| .gNf rfl rfl rfl c81 <| .gNf rfl rfl rfl c81 <| .gNf rfl rfl rfl c81 <| .gNf rfl rfl rfl c81 <| .gNf rfl rfl rfl c81 <| .gNf rfl rfl rfl c81 <| .gNf rfl rfl rfl c81 <| .gNf rfl rfl rfl c81 <| .gNf rfl rfl rfl c81 <| .pkTb rfl c81 rfl <| .mv rfl <| .gNf rfl rfl rfl rfl <| .gNf rfl rfl rfl rfl <| .gNf rfl rfl rfl rfl <| .gNf rfl rfl rfl rfl <| .gNf rfl rfl rfl rfl <| .gNf rfl rfl rfl rfl <| .gNf rfl rfl rfl rfl <| .gNf rfl rfl rfl rfl <| .gNf rfl rfl rfl rfl <| .pkTb rfl rfl rfl <| .mv rfl <| .gNf rfl rfl rfl rfl <| .gNf rfl rfl rfl rfl <| .gNf rfl rfl rfl rfl <| .gNf rfl rfl rfl rfl <| .gNf rfl rfl rfl rfl <| .gNf rfl rfl rfl rfl <| .gNf rfl rfl rfl rfl <| .gNf rfl rfl rfl rfl <| .gNf rfl rfl rfl rfl <| .pkTb rfl rfl rfl <| .nil) rfl (by kernel_rfl) ?_
                refine .cTb rfl rfl ?_
                refine .reg (.asg rfl <| .nil) rfl ?_
                cases h
                have h := ho3
                clear ho3
                refine .retG (Hi := []) (Ho := []) (b := b) (fn := Go.Proofs.Tryz.f15) (d := D.bool false) (fun _ _ hb => by exact ⟨_, (Option.some.inj h).symm, fun e => by subst e; have h := ho2; cases h; have h := ho1; cases h; exact hb⟩) rfl (.cons (.tmp rfl) .nil) (.refl _) trivial trivial
              · replace h := ite_neg_some c81 h
                obtain ⟨⟨v82, v83, v84⟩, e85, h⟩ := bind_some h
                obtain ⟨v86, e87, h⟩ := bind_some h
                by_cases c88 : (!v86) = true
                · replace h := ite_pos_some c88 h
                  refine .regD hmix (.mv rfl <| .cm rfl rfl rfl <| .mv rfl <| .gYf rfl rfl rfl c81 <| .fa rfl f_exact_Surd_0 <| .gYf rfl rfl rfl c81 <| .ldE (qC (v76)) rfl rfl ly_exact_Q rfl rfl <| .gYf rfl rfl rfl c81 <| .mv rfl <| .gYf rfl rfl rfl c81 <| .mv rfl <| .gYf rfl rfl rfl c81 <| .ixE rfl rfl se_Lexact_Surd (ix_some e85).1 (ix_some e85).2 <| .gYf rfl rfl rfl c81 <| .fpE (hl' := rfl) (qC (v82)) rfl f_exact_Surd_0 rfl <| .gYf rfl rfl rfl c81 <| .lpE (l := qC (v82)) rfl ly_exact_Q rfl <| .gYf rfl rfl rfl c81 <| .callG (C_l_same e87) ⟨rfl, rfl, trivial⟩ trivial trivial <| .gYf rfl rfl rfl c81 <| .not rfl <| .pkFb rfl c81 rfl <| .mv rfl <| .gNf rfl rfl rfl c88 <| .gNf rfl rfl rfl c88 <| .gNf rfl rfl rfl c88 <| .gNf rfl rfl rfl c88 <| .gNf rfl rfl rfl c88 <| .gNf rfl rfl rfl c88 <| .gNf rfl rfl rfl c88 <| .gNf rfl rfl rfl c88 <| .gNf rfl rfl rfl c88 <| .pkTb rfl c88 rfl <| .mv rfl <| .gNf rfl rfl rfl rfl <| .gNf rfl rfl rfl rfl <| .gNf rfl rfl rfl rfl <| .gNf rfl rfl rfl rfl <| .gNf rfl rfl rfl rfl <| .gNf rfl rfl rfl rfl <| .gNf rfl rfl rfl rfl <| .gNf rfl rfl rfl rfl <| .gNf rfl rfl rfl rfl <| .pkTb rfl rfl rfl <| .nil) rfl (by kernel_rfl) ?_
                  refine .cTb rfl rfl ?_
                  refine .reg (.asg rfl <| .nil) rfl ?_
                  cases h
                  have h := ho3
                  clear ho3
                  refine .retG (Hi := []) (Ho := []) (b := b) (fn := Go.Proofs.Tryz.f15) (d := D.bool false) (fun _ _ hb => by exact ⟨_, (Option.some.inj h).symm, fun e => by subst e; have h := ho2; cases h; have h := ho1; cases h; exact hb⟩) rfl (.cons (.tmp rfl) .nil) (.refl _) trivial trivial
                · replace h := ite_neg_some c88 h
                  obtain ⟨⟨v89, v90, v91⟩, e92, h⟩ := bind_some h
                  obtain ⟨v93, e94, h⟩ := bind_some h
                  by_cases c95 : (!v93) = true
                  · replace h := ite_pos_some c95 h
                    refine .regD hmix (.mv rfl <| .cm rfl rfl rfl <| .mv rfl <| .gYf rfl rfl rfl c81 <| .fa rfl f_exact_Surd_0 <| .gYf rfl rfl rfl c81 <| .ldE (qC (v76)) rfl rfl ly_exact_Q rfl rfl <| .gYf rfl rfl rfl c81 <| .mv rfl <| .gYf rfl rfl rfl c81 <| .mv rfl <| .gYf rfl rfl rfl c81 <| .ixE rfl rfl se_Lexact_Surd (ix_some e85).1 (ix_some e85).2 <| .gYf rfl rfl rfl c81 <| .fpE (hl' := rfl) (qC (v82)) rfl f_exact_Surd_0 rfl <| .gYf rfl rfl rfl c81 <| .lpE (l := qC (v82)) rfl ly_exact_Q rfl <| .gYf rfl rfl rfl c81 <| .callG (C_l_same e87) ⟨rfl, rfl, trivial⟩ trivial trivial <| .gYf rfl rfl rfl c81 <| .not rfl <| .pkFb rfl c81 rfl <| .mv rfl <| .gYf rfl rfl rfl c88 <| .fa rfl f_exact_Surd_1 <| .gYf rfl rfl rfl c88 <| .ldE (qC (v77)) rfl rfl ly_exact_Q rfl rfl <| .gYf rfl rfl rfl c88 <| .mv rfl <| .gYf rfl rfl rfl c88 <| .mv rfl <| .gYf rfl rfl rfl c88 <| .ixE rfl rfl se_Lexact_Surd (ix_some e92).1 (ix_some e92).2 <| .gYf rfl rfl rfl c88 <| .fpE (hl' := rfl) (qC (v90)) rfl f_exact_Surd_1 rfl <| .gYf rfl rfl rfl c88 <| .lpE (l := qC (v90)) rfl ly_exact_Q rfl <| .gYf rfl rfl rfl c88 <| .callG (C_l_same e94) ⟨rfl, rfl, trivial⟩ trivial trivial <| .gYf rfl rfl rfl c88 <| .not rfl <| .pkFb rfl c88 rfl <| .mv rfl <| .gNf rfl rfl rfl c95 <| .gNf rfl rfl rfl c95 <| .gNf rfl rfl rfl c95 <| .gNf rfl rfl rfl c95 <| .gNf rfl rfl rfl c95 <| .gNf rfl rfl rfl c95 <| .gNf rfl rfl rfl c95 <| .gNf rfl rfl rfl c95 <| .gNf rfl rfl rfl c95 <| .pkTb rfl c95 rfl <| .nil) rfl (by kernel_rfl) ?_
                    refine .cTb rfl rfl ?_
                    refine .reg (.asg rfl <| .nil) rfl ?_
                    cases h
                    have h := ho3
                    clear ho3
                    refine .retG (Hi := []) (Ho := []) (b := b) (fn := Go.Proofs.Tryz.f15) (d := D.bool false) (fun _ _ hb => by exact ⟨_, (Option.some.inj h).symm, fun e => by subst e; have h := ho2; cases h; have h := ho1; cases h; exact hb⟩) rfl (.cons (.tmp rfl) .nil) (.refl _) trivial trivial
                  · replace h := ite_neg_some c95 h
                    obtain ⟨⟨v96, v97, v98⟩, e99, h⟩ := bind_some h
                    obtain ⟨v100, e101, h⟩ := bind_some h
                    refine .regD hmix (.mv rfl <| .cm rfl rfl rfl <| .mv rfl <| .gYf rfl rfl rfl c81 <| .fa rfl f_exact_Surd_0 <| .gYf rfl rfl rfl c81 <| .ldE (qC (v76)) rfl rfl ly_exact_Q rfl rfl <| .gYf rfl rfl rfl c81 <| .mv rfl <| .gYf rfl rfl rfl c81 <| .mv rfl <| .gYf rfl rfl rfl c81 <| .ixE rfl rfl se_Lexact_Surd (ix_some e85).1 (ix_some e85).2 <| .gYf rfl rfl rfl c81 <| .fpE (hl' := rfl) (qC (v82)) rfl f_exact_Surd_0 rfl <| .gYf rfl rfl rfl c81 <| .lpE (l := qC (v82)) rfl ly_exact_Q rfl <| .gYf rfl rfl rfl c81 <| .callG (C_l_same e87) ⟨rfl, rfl, trivial⟩ trivial trivial <| .gYf rfl rfl rfl c81 <| .not rfl <| .pkFb rfl c81 rfl <| .mv rfl <| .gYf rfl rfl rfl c88 <| .fa rfl f_exact_Surd_1 <| .gYf rfl rfl rfl c88 <| .ldE (qC (v77)) rfl rfl ly_exact_Q rfl rfl <| .gYf rfl rfl rfl c88 <| .mv rfl <| .gYf rfl rfl rfl c88 <| .mv rfl <| .gYf rfl rfl rfl c88 <| .ixE rfl rfl se_Lexact_Surd (ix_some e92).1 (ix_some e92).2 <| .gYf rfl rfl rfl c88 <| .fpE (hl' := rfl) (qC (v90)) rfl f_exact_Surd_1 rfl <| .gYf rfl rfl rfl c88 <| .lpE (l := qC (v90)) rfl ly_exact_Q rfl <| .gYf rfl rfl rfl c88 <| .callG (C_l_same e94) ⟨rfl, rfl, trivial⟩ trivial trivial <| .gYf rfl rfl rfl c88 <| .not rfl <| .pkFb rfl c88 rfl <| .mv rfl <| .gYf rfl rfl rfl c95 <| .fa rfl f_exact_Surd_2 <| .gYf rfl rfl rfl c95 <| .ldE (qC (v78)) rfl rfl ly_exact_Q rfl rfl <| .gYf rfl rfl rfl c95 <| .mv rfl <| .gYf rfl rfl rfl c95 <| .mv rfl <| .gYf rfl rfl rfl c95 <| .ixE rfl rfl se_Lexact_Surd (ix_some e99).1 (ix_some e99).2 <| .gYf rfl rfl rfl c95 <| .fpE (hl' := rfl) (qC (v98)) rfl f_exact_Surd_2 rfl <| .gYf rfl rfl rfl c95 <| .lpE (l := qC (v98)) rfl ly_exact_Q rfl <| .gYf rfl rfl rfl c95 <| .callG (C_l_same e101) ⟨rfl, rfl, trivial⟩ trivial trivial <| .gYf rfl rfl rfl c95 <| .not rfl <| .pkFb rfl c95 rfl <| .nil) rfl (by kernel_rfl) ?_
                    by_cases c102 : (!v100) = true
                    · replace h := ite_pos_some c102 h
                      refine .cTb rfl c102 ?_
                      refine .reg (.asg rfl <| .nil) rfl ?_
                      cases h
                      have h := ho3
                      clear ho3
                      refine .retG (Hi := []) (Ho := []) (b := b) (fn := Go.Proofs.Tryz.f15) (d := D.bool false) (fun _ _ hb => by exact ⟨_, (Option.some.inj h).symm, fun e => by subst e; have h := ho2; cases h; have h := ho1; cases h; exact hb⟩) rfl (.cons (.tmp rfl) .nil) (.refl _) trivial trivial
                    · replace h := ite_neg_some c102 h
                      refine .cFb rfl c102 ?_
                      refine .skip (Ok.on ?_)
                      refine .reg (.mv rfl <| .cm rfl rfl rfl <| .nil) rfl ?_
                      by_cases c103 : (decide (v51 > 0)) = true
                      · replace h := ite_pos_some c103 h
                        refine .cTb rfl c103 ?_
                        obtain ⟨⟨v104, v105, v106⟩, e107, h⟩ := bind_some h
                        obtain ⟨⟨v108, v109, v110⟩, e111, h⟩ := bind_some h
                        obtain ⟨⟨v112, v113⟩, e114, h⟩ := bind_some h
                        refine .regD hmix (.mv rfl <| .mv rfl <| .ar rfl rfl rfl <| .ixE rfl rfl se_Lexact_Surd (ix_some e107).1 (ix_some e107).2 <| .lpE (l := qC (v104) ++ qC (v105) ++ qC (v106)) rfl ly_exact_Surd rfl <| .mv rfl <| .mv rfl <| .ixE rfl rfl se_Lexact_Surd (ix_some e111).1 (ix_some e111).2 <| .lpE (l := qC (v108) ++ qC (v109) ++ qC (v110)) rfl ly_exact_Surd rfl <| .callG (C_Surd_Cmp e114) ⟨rfl, rfl, trivial⟩ trivial trivial <| .mv rfl <| .ext rfl rfl <| .ext rfl rfl <| .asg rfl <| .asg rfl <| .nil) rfl (by kernel_rfl) ?_
                        by_cases c115 : (v113 != 0) = true
                        · replace h := ite_pos_some c115 h
                          refine .reg (.mv rfl <| .cm rfl rfl rfl <| .mv rfl <| .gNf rfl rfl rfl c115 <| .gNf rfl rfl rfl c115 <| .pkTb rfl c115 rfl <| .nil) rfl ?_
                          refine .cTb rfl rfl ?_
                          refine .reg (.asg rfl <| .nil) rfl ?_
                          cases h
                          have h := ho3
                          clear ho3
                          refine .retG (Hi := []) (Ho := []) (b := b) (fn := Go.Proofs.Tryz.f15) (d := D.bool false) (fun _ _ hb => by exact ⟨_, (Option.some.inj h).symm, fun e => by subst e; have h := ho2; cases h; have h := ho1; cases h; exact hb⟩) rfl (.cons (.tmp rfl) .nil) (.refl _) trivial trivial
                        · replace h := ite_neg_some c115 h
                          refine .reg (.mv rfl <| .cm rfl rfl rfl <| .mv rfl <| .gYf rfl rfl rfl c115 <| .mv rfl <| .gYf rfl rfl rfl c115 <| .cm rfl rfl rfl <| .pkFb rfl c115 rfl <| .nil) rfl ?_
                          by_cases c116 : (decide (v112 ≥ 0)) = true
                          · replace h := ite_pos_some c116 h
                            refine .cTb rfl c116 ?_
                            refine .reg (.asg rfl <| .nil) rfl ?_
                            cases h
                            have h := ho3
                            clear ho3
                            refine .retG (Hi := []) (Ho := []) (b := b) (fn := Go.Proofs.Tryz.f15) (d := D.bool false) (fun _ _ hb => by exact ⟨_, (Option.some.inj h).symm, fun e => by subst e; have h := ho2; cases h; have h := ho1; cases h; exact hb⟩) rfl (.cons (.tmp rfl) .nil) (.refl _) trivial trivial
                          · replace h := ite_neg_some c116 h
                            refine .cFb rfl c116 ?_
                            refine .skip (fun _ _ hs => ⟨(), (Option.some.inj h).symm, hs.sub ⟨⟨_, rfl, .refl _⟩, ⟨_, rfl, .refl _⟩, ⟨_, rfl, .refl _⟩, ⟨_, rfl, .refl _⟩, ⟨_, rfl, .refl _⟩, ⟨_, rfl, .refl _⟩, ⟨_, rfl, .refl _⟩, trivial⟩ ⟨⟨_, rfl, .refl _⟩, ⟨_, rfl, .refl _⟩, ⟨_, rfl, .refl _⟩, ⟨_, rfl, .refl _⟩, trivial⟩ rfl rfl⟩)
                      · replace h := ite_neg_some c103 h
                        refine .cFb rfl c103 ?_
                        refine .skip (fun _ _ hs => ⟨(), (Option.some.inj h).symm, hs.sub ⟨⟨_, rfl, .refl _⟩, ⟨_, rfl, .refl _⟩, ⟨_, rfl, .refl _⟩, ⟨_, rfl, .refl _⟩, ⟨_, rfl, .refl _⟩, ⟨_, rfl, .refl _⟩, ⟨_, rfl, .refl _⟩, trivial⟩ ⟨⟨_, rfl, .refl _⟩, ⟨_, rfl, .refl _⟩, ⟨_, rfl, .refl _⟩, ⟨_, rfl, .refl _⟩, trivial⟩ rfl rfl⟩)
        · rintro ⟨⟩ rfl
          show Ok PP _ [(9, D.ref 9 0), (11, D.ref 11 0), (13, D.ref 13 0), (15, D.ref 15 0), (17, D.bool v34), (18, slcE (Enc.prod Enc.rat (Enc.prod Enc.rat Enc.rat)) v36), (20, D.int .i64 v51)] [(9, Hp.box 28 (qC (v19))), (11, Hp.box 28 (qC (v22))), (13, Hp.box 28 (qC (v25))), (15, Hp.box 126 (qC (v28) ++ qC (v29) ++ qC (v30)))] _ _
          refine .region (.mv rfl <| .ar rfl rfl rfl <| .asg rfl <| .nil) rfl (fun _ _ hs => ⟨(IntKind.i64.wrap (v51 + 1)), (Option.some.inj h).symm, hs.sub ⟨⟨_, rfl, .refl _⟩, ⟨_, rfl, .refl _⟩, ⟨_, rfl, .refl _⟩, ⟨_, rfl, .refl _⟩, ⟨_, rfl, .refl _⟩, ⟨_, rfl, .refl _⟩, ⟨_, rfl, .refl _⟩, trivial⟩ ⟨⟨_, rfl, .refl _⟩, ⟨_, rfl, .refl _⟩, ⟨_, rfl, .refl _⟩, ⟨_, rfl, .refl _⟩, trivial⟩ rfl rfl⟩)
      · replace h := ite_neg_some c56 h
        refine .cFb rfl c56 ?_
        refine .exit (fun a w hs => ⟨_, (Option.some.inj h).symm, fun e => by subst e; have h := ho2; exact blk_exit (⟨(), (Option.some.inj h).symm, hs.sub ⟨⟨_, rfl, .refl _⟩, ⟨_, rfl, .refl _⟩, ⟨_, rfl, .refl _⟩, ⟨_, rfl, .refl _⟩, ⟨_, rfl, .refl _⟩, ⟨_, rfl, .refl _⟩, trivial⟩ ⟨⟨_, rfl, .refl _⟩, ⟨_, rfl, .refl _⟩, ⟨_, rfl, .refl _⟩, ⟨_, rfl, .refl _⟩, trivial⟩ rfl rfl⟩)⟩)
    · rintro ⟨⟩ rfl
      show Ok PP _ [(9, D.ref 9 0), (11, D.ref 11 0), (13, D.ref 13 0), (15, D.ref 15 0), (17, D.bool v34), (18, slcE (Enc.prod Enc.rat (Enc.prod Enc.rat Enc.rat)) v36)] [(9, Hp.box 28 (qC (v19))), (11, Hp.box 28 (qC (v22))), (13, Hp.box 28 (qC (v25))), (15, Hp.box 126 (qC (v28) ++ qC (v29) ++ qC (v30)))] _ _
      refine .sq ?_
      refine .reg (.mv rfl <| .not rfl <| .nil) rfl ?_
      by_cases c119 : (!v34) = true
      · replace h := ite_pos_some c119 h
        refine .cTb rfl c119 ?_
        obtain ⟨v120, e121, h⟩ := bind_some h
        refine .reg (.callG (C_l_awake e121) trivial trivial trivial <| .asg rfl <| .nil) rfl ?_
        cases h
        refine .retG (fun _ _ hb => hb) rfl (.cons (.tmp rfl) .nil) (.refl _) trivial trivial
      · replace h := ite_neg_some c119 h
        refine .cFb rfl c119 ?_
        refine .skip (Ok.on ?_)
        obtain ⟨⟨v122, v123, v124⟩, e125, h⟩ := bind_some h
        obtain ⟨⟨v126, v127⟩, e128, h⟩ := bind_some h
        refine .reg (.ldE (qC (v19)) rfl rfl ly_exact_Q rfl rfl <| .ldE (qC (v22)) rfl rfl ly_exact_Q rfl rfl <| .ldE (qC (v25)) rfl rfl ly_exact_Q rfl rfl <| .ldE (qC (v28) ++ qC (v29) ++ qC (v30)) rfl rfl ly_exact_Surd rfl rfl <| .callG (C_l_value e125) ⟨rfl, rfl, rfl, rfl, trivial⟩ trivial trivial <| .callG (C_Surd_Sign e128) ⟨rfl, trivial⟩ trivial trivial <| .mv rfl <| .ext rfl rfl <| .ext rfl rfl <| .asg rfl <| .asg rfl <| .nil) rfl ?_
        refine .reg (.asg rfl <| .nil) rfl ?_
        obtain ⟨v150, hp130, h⟩ := bind_some h
        refine .cutX (fun i => v150 = i) (fun (i : Bool) => [(27, D.int .i64 v126), (29, D.bool i)]) (fun (i : Bool) => []) ?_ ?_
        · have ho1 := h
          clear h
          have h := hp130
          clear hp130
          refine .reg (.asg rfl <| .nil) rfl ?_
          obtain ⟨o133, hl134, h⟩ := bind_some h
          have ho2 := h
          clear h
          refine .block (.loopL (fun (s : Bool × Int) => [(15, D.ref 15 0), (18, slcE (Enc.prod Enc.rat (Enc.prod Enc.rat Enc.rat)) v36), (27, D.int .i64 v126), (29, D.bool s.1), (30, D.int .i64 s.2)]) (fun (s : Bool × Int) => [(15, Hp.box 126 (qC (v28) ++ qC (v29) ++ qC (v30)))]) hl134 ⟨⟨_, rfl, .refl _⟩, ⟨_, rfl, .refl _⟩, ⟨_, rfl, .refl _⟩, ⟨_, rfl, .refl _⟩, ⟨_, rfl, .refl _⟩, trivial⟩ ⟨⟨_, rfl, .refl _⟩, trivial⟩ rfl rfl ?_)
          rintro ⟨v131, v132⟩ st135 hb136
          have h : m_l_ExactZeros_l2 v28 v29 v30 v36 v131 v132 = some st135 := hb136
          clear hb136
          unfold m_l_ExactZeros_l2 at h
          show Ok PP _ [(15, D.ref 15 0), (18, slcE (Enc.prod Enc.rat (Enc.prod Enc.rat Enc.rat)) v36), (27, D.int .i64 v126), (29, D.bool v131), (30, D.int .i64 v132)] [(15, Hp.box 126 (qC (v28) ++ qC (v29) ++ qC (v30)))] _ _
          refine .sq ?_
          refine .reg (.mv rfl <| .mv rfl <| .lnE rfl is_Lexact_Surd <| .cm rfl rfl rfl <| .nil) rfl ?_
          by_cases c137 : (decide (v132 < (v36.length : Int))) = true
          · replace h := ite_pos_some c137 h
            refine .cTb rfl c137 ?_
            refine .skip (Ok.on ?_)
            obtain ⟨v148, hp139, h⟩ := bind_some h
            refine .cutX (fun i => v148 = i) (fun (i : Bool) => [(15, D.ref 15 0), (18, slcE (Enc.prod Enc.rat (Enc.prod Enc.rat Enc.rat)) v36), (27, D.int .i64 v126), (29, D.bool i), (30, D.int .i64 v132)]) (fun (i : Bool) => [(15, Hp.box 126 (qC (v28) ++ qC (v29) ++ qC (v30)))]) ?_ ?_
            · have ho3 := h
              clear h
              have h := hp139
              clear hp139
              refine .block ?_
              obtain ⟨⟨v140, v141, v142⟩, e143, h⟩ := bind_some h
              obtain ⟨⟨v144, v145⟩, e146, h⟩ := bind_some h
              refine .regD hmix (.ldE (qC (v28) ++ qC (v29) ++ qC (v30)) rfl rfl ly_exact_Surd rfl rfl <| .mv rfl <| .mv rfl <| .ixE rfl rfl se_Lexact_Surd (ix_some e143).1 (ix_some e143).2 <| .lpE (l := qC (v140) ++ qC (v141) ++ qC (v142)) rfl ly_exact_Surd rfl <| .callG (C_Surd_Cmp e146) ⟨rfl, rfl, trivial⟩ trivial trivial <| .mv rfl <| .ext rfl rfl <| .ext rfl rfl <| .asg rfl <| .asg rfl <| .nil) rfl (by kernel_rfl) ?_
              by_cases c147 : v131 = true
              · replace h := ite_pos_some c147 h
                refine .region (.mv rfl <| .mv rfl <| .gNf rfl rfl rfl c147 <| .gNf rfl rfl rfl c147 <| .pkTb rfl c147 rfl <| .asg rfl <| .nil) rfl (fun _ _ hs => ⟨true, (Option.some.inj h).symm, hs.sub ⟨⟨_, rfl, .refl _⟩, ⟨_, rfl, .refl _⟩, ⟨_, rfl, .refl _⟩, ⟨_, rfl, .refl _⟩, ⟨_, rfl, .refl _⟩, trivial⟩ ⟨⟨_, rfl, .refl _⟩, trivial⟩ rfl rfl⟩)
              · replace h := ite_neg_some c147 h
                refine .region (.mv rfl <| .mv rfl <| .gYf rfl rfl rfl c147 <| .mv rfl <| .gYf rfl rfl rfl c147 <| .cm rfl rfl rfl <| .pkFb rfl c147 rfl <| .asg rfl <| .nil) rfl (fun _ _ hs => ⟨(v144 == 0), (Option.some.inj h).symm, hs.sub ⟨⟨_, rfl, .refl _⟩, ⟨_, rfl, .refl _⟩, ⟨_, rfl, .refl _⟩, ⟨_, rfl, .refl _⟩, ⟨_, rfl, .refl _⟩, trivial⟩ ⟨⟨_, rfl, .refl _⟩, trivial⟩ rfl rfl⟩)
            · rintro _ rfl
              show Ok PP _ [(15, D.ref 15 0), (18, slcE (Enc.prod Enc.rat (Enc.prod Enc.rat Enc.rat)) v36), (27, D.int .i64 v126), (29, D.bool v148), (30, D.int .i64 v132)] [(15, Hp.box 126 (qC (v28) ++ qC (v29) ++ qC (v30)))] _ _
              refine .region (.mv rfl <| .ar rfl rfl rfl <| .asg rfl <| .nil) rfl (fun _ _ hs => ⟨(v148, (IntKind.i64.wrap (v132 + 1))), (Option.some.inj h).symm, hs.sub ⟨⟨_, rfl, .refl _⟩, ⟨_, rfl, .refl _⟩, ⟨_, rfl, .refl _⟩, ⟨_, rfl, .refl _⟩, ⟨_, rfl, .refl _⟩, trivial⟩ ⟨⟨_, rfl, .refl _⟩, trivial⟩ rfl rfl⟩)
          · replace h := ite_neg_some c137 h
            refine .cFb rfl c137 ?_
            refine .exit (fun a w hs => ⟨_, (Option.some.inj h).symm, fun e => by subst e; have h := ho2; exact blk_exit (⟨v131, (Option.some.inj h).symm, hs.sub ⟨⟨_, rfl, .refl _⟩, ⟨_, rfl, .refl _⟩, trivial⟩ trivial rfl rfl⟩)⟩)
        · rintro _ rfl
          show Ok PP _ [(27, D.int .i64 v126), (29, D.bool v150)] [] _ _
          by_cases c151 : (v150 == (v126 == 0)) = true
          · replace h := ite_pos_some c151 h
            obtain ⟨v152, e153, h⟩ := bind_some h
            refine .reg (.mv rfl <| .mv rfl <| .cm rfl rfl rfl <| .bc ib_bool rfl rfl rfl <| .mv rfl <| .gYt rfl rfl rfl c151 <| .callG (C_l_awake e153) trivial trivial trivial <| .pkTb rfl c151 rfl <| .asg rfl <| .nil) rfl ?_
            cases h
            refine .retG (fun _ _ hb => hb) rfl (.cons (.tmp rfl) .nil) (.refl _) trivial trivial
          · replace h := ite_neg_some c151 h
            refine .reg (.mv rfl <| .mv rfl <| .cm rfl rfl rfl <| .bc ib_bool rfl rfl rfl <| .mv rfl <| .gNt rfl rfl rfl c151 <| .pkFb rfl c151 rfl <| .asg rfl <| .nil) rfl ?_
            cases h
            refine .retG (fun _ _ hb => hb) rfl (.cons (.tmp rfl) .nil) (.refl _) trivial trivial
end
end Go.Am
namespace Go.Am
def vz (a b c p q r : Rat) : Prop := sgS (a * (p * p + q * q * r) + b * p + c) (a * (2 * p * q) + b * q) r = 0
structure RootsOk (a b c : Rat) (l : List (Rat × Rat × Rat)) : Prop where
  ok : ∀ x ∈ l, RootOk a b c x
  all : ∀ p q r : Rat, ¬ r < 0 → (vz a b c p q r ↔ ∃ x ∈ l, cmS p q r x.1 x.2.1 x.2.2 = 0)
  up : ∀ x y, l = [x, y] → cmS x.1 x.2.1 x.2.2 y.1 y.2.1 y.2.2 = -1
theorem one_q {p q r v : Rat} : (∃ x ∈ [(v, (0 : Rat), (0 : Rat))], cmS p q r x.1 x.2.1 x.2.2 = 0) ↔ sgS (p - v) q r = 0 := by
  constructor
  · rintro ⟨x, hx, h⟩
    rw [List.mem_singleton] at hx
    subst hx
    rw [← h]; exact (cm_q p q r v).symm
  · intro h
    exact ⟨_, List.mem_singleton.2 rfl, (cm_q p q r v).trans h⟩
theorem RootOk_q {a b c v : Rat} (h : sz v ≤ 10000000) (hz : a * (v * v) + b * v + c = 0) : RootOk a b c (v, 0, 0) := by
  have z0 : sz 0 ≤ 10000000 := by decide +kernel
  refine ⟨h, z0, z0, (show ¬ (0 : Rat) < 0 by decide +kernel), nf_q v, ?_, ?_⟩ <;> simp only [] <;> grind
theorem no_root {x q r Y2 : Rat} (hr : ¬ r < 0) (hY : Y2 < 0) : sgS (x * x + q * q * r - Y2) (x * q + x * q) r ≠ 0 := by
  rw [Ne, zero_iff hr]
  rintro ⟨h, _⟩
  have h1 := sq_nn x
  have h2 := D_nn (b := q) hr
  have h3 := sq_nn (x * x - q * q * r)
  have h4 := sqp (show Y2 ≠ 0 by grind)
  have e : (x * x + q * q * r - Y2) * (x * x + q * q * r - Y2) - (x * q + x * q) * (x * q + x * q) * r = (x * x - q * q * r) * (x * x - q * q * r) + 2 * (-Y2 * (x * x + q * q * r)) + Y2 * Y2 := by grind
  have h5 : 0 ≤ -Y2 * (x * x + q * q * r) := Rat.mul_nonneg (by grind) (by grind)
  generalize -Y2 * (x * x + q * q * r) = w at *
  generalize (x * x - q * q * r) * (x * x - q * q * r) = w2 at *
  generalize Y2 * Y2 = w3 at *
  grind
theorem val_eq {a b c P U : Rat} (p q r : Rat) (hP : P * (a + a) = -b) (hUU : U * U * (4 * a * a) = 1) : a * (p * p + q * q * r) + b * p + c = a * ((p - P) * (p - P) + q * q * r - U * U * (b * b - 4 * a * c)) := by
  have e : b = -(P * (a + a)) := by grind
  subst e
  grind
theorem val_eq2 {a b P : Rat} (p q : Rat) (hP : P * (a + a) = -b) : a * (2 * p * q) + b * q = a * ((p - P) * q + (p - P) * q) := by grind
theorem root_val {a b c P U Y : Rat} (a0 : a ≠ 0) (hP : P * (a + a) = -b) (hUU : U * U * (4 * a * a) = 1) (hY : Y * Y = U * U * (b * b - 4 * a * c)) : a * ((P + Y) * (P + Y)) + b * (P + Y) + c = 0 := by
  have e : b = -(P * (a + a)) := by grind
  subst e
  grind
theorem roots_ok (a b c : Rat) (ha : sz a ≤ 256) (hb : sz b ≤ 256) (hc : sz c ≤ 256) (hall : ¬ (a = 0 ∧ b = 0 ∧ c = 0)) : RootsOk a b c (rootsX a b c) := by
  haveI : Bd a 256 := ⟨ha⟩
  haveI : Bd b 256 := ⟨hb⟩
  haveI : Bd c 256 := ⟨hc⟩
  unfold rootsX
  by_cases a0 : a = 0
  · rw [if_pos a0]
    by_cases b0 : b = 0
    · rw [if_pos b0]
      have c0 : c ≠ 0 := fun h => hall ⟨a0, b0, h⟩
      refine ⟨fun x hx => (by cases hx), fun p q r hr => ?_, fun x y h => (by cases h)⟩
      unfold vz
      subst a0; subst b0
      rw [zero_iff hr]
      constructor
      · rintro ⟨h, _⟩
        have := sqp c0
        grind
      · rintro ⟨x, hx, _⟩; cases hx
    · rw [if_neg b0]
      have hs : sz (-(c / b)) ≤ 10000000 := Nat.le_trans (inferInstance : Bd (-(c / b)) _).le (by decide)
      have hcb : c / b * b = c := Rat.div_mul_cancel b0
      refine ⟨fun x hx => ?_, fun p q r hr => ?_, fun x y h => (by cases h)⟩
      · rw [List.mem_singleton] at hx
        subst hx
        refine RootOk_q hs ?_
        subst a0
        generalize c / b = v at *
        grind
      · rw [one_q]
        unfold vz
        exact zero_mul hr b0 (by generalize c / b = v at *; subst a0; grind) (by subst a0; grind)
  · rw [if_neg a0]
    have a2 : a + a ≠ 0 := by grind
    have hP : -(b / (a + a)) * (a + a) = -b := by
      have : b / (a + a) * (a + a) = b := Rat.div_mul_cancel a2
      generalize b / (a + a) = u at *
      grind
    have hU : 1 / (a + a) * (a + a) = 1 := Rat.div_mul_cancel a2
    have sP : sz (-(b / (a + a))) ≤ 1000000 := Nat.le_trans (inferInstance : Bd (-(b / (a + a))) _).le (by decide)
    have sU : sz (if 1 / (a + a) < 0 then -(1 / (a + a)) else 1 / (a + a)) ≤ 1000000 := Nat.le_trans (inferInstance : Bd (if 1 / (a + a) < 0 then -(1 / (a + a)) else 1 / (a + a)) _).le (by decide)
    have sD : sz (b * b - 4 * a * c) ≤ 1000000 := Nat.le_trans (inferInstance : Bd (b * b - 4 * a * c) _).le (by decide)
    have hUp : 0 < (if 1 / (a + a) < 0 then -(1 / (a + a)) else 1 / (a + a)) := by split <;> grind
    have hUU : (if 1 / (a + a) < 0 then -(1 / (a + a)) else 1 / (a + a)) * (if 1 / (a + a) < 0 then -(1 / (a + a)) else 1 / (a + a)) * (4 * a * a) = 1 := by
      generalize 1 / (a + a) = u at *
      split <;> grind
    generalize (if 1 / (a + a) < 0 then -(1 / (a + a)) else 1 / (a + a)) = U at *
    generalize -(b / (a + a)) = P at *
    have hv : ∀ p q r : Rat, ¬ r < 0 → (vz a b c p q r ↔ sgS ((p - P) * (p - P) + q * q * r - U * U * (b * b - 4 * a * c)) ((p - P) * q + (p - P) * q) r = 0) := fun p q r hr =>
      zero_mul hr a0 (val_eq p q r hP hUU) (val_eq2 p q hP)
    have hrv : ∀ Y : Rat, Y * Y = U * U * (b * b - 4 * a * c) → a * ((P + Y) * (P + Y)) + b * (P + Y) + c = 0 := fun Y hY => root_val a0 hP hUU hY
    generalize hDD : b * b - 4 * a * c = D at *
    have hUs := mp hUp hUp
    by_cases hneg : D < 0
    · rw [if_pos hneg]
      have hY : U * U * D < 0 := mpn hUs hneg
      refine ⟨fun x hx => (by cases hx), fun p q r hr => ?_, fun x y h => (by cases h)⟩
      rw [hv p q r hr]
      constructor
      · intro h; exact absurd h (no_root hr hY)
      · rintro ⟨x, hx, _⟩; cases hx
    rw [if_neg hneg]
    by_cases hz : D = 0
    · rw [if_pos hz]
      refine ⟨fun x hx => ?_, fun p q r hr => ?_, fun x y h => (by cases h)⟩
      · rw [List.mem_singleton] at hx
        subst hx
        refine RootOk_q (by omega) ?_
        have := hrv 0 (by rw [hz]; grind)
        have e : P + 0 = P := by grind
        rw [e] at this
        exact this
      · rw [one_q, hv p q r hr]
        have e : (p - P) * (p - P) + q * q * r - U * U * D = (p - P) * (p - P) + q * q * r := by rw [hz]; grind
        rw [e]
        exact zero_sq hr
    rw [if_neg hz]
    have hD : 0 < D := by grind
    by_cases hq : issq D
    · have hrt := rt_sq hneg hq
      have er : sz (rt D) ≤ 1000000 := Nat.le_trans (sz_rt D) sD
      have hrn : 0 ≤ rt D := by
        unfold rt
        rw [Rat.mkRat_eq_div]
        rw [Rat.div_def]
        have hi : (0 : Rat) < ((isqrt D.den : Nat) : Rat) := by
          have := isqrt_pos D.den_nz
          have : 0 < isqrt D.den := by omega
          exact_mod_cast this
        exact Rat.mul_nonneg (by exact_mod_cast Nat.zero_le _) (Rat.le_of_lt (Rat.inv_pos.2 hi))
      unfold normX
      rw [if_pos hq, if_pos hq]
      haveI : Bd P 1000000 := ⟨sP⟩
      haveI : Bd U 1000000 := ⟨sU⟩
      haveI : Bd (rt D) 1000000 := ⟨er⟩
      have s1 : sz (P + -U * rt D) ≤ 10000000 := Nat.le_trans (inferInstance : Bd (P + -U * rt D) _).le (by decide)
      have s2 : sz (P + U * rt D) ≤ 10000000 := Nat.le_trans (inferInstance : Bd (P + U * rt D) _).le (by decide)
      have hrp : 0 < rt D := by
        rcases sgn3 (rt D) with ⟨h, _⟩ | ⟨h, _⟩ | ⟨h, _⟩
        · grind
        · rw [h] at hrt; grind
        · exact h
      have hUr := mp hUp hrp
      have hYY : (U * rt D) * (U * rt D) = U * U * D := by rw [← hrt]; grind
      generalize hρ : rt D = ρ at *
      refine ⟨fun x hx => ?_, fun p q r hr => ?_, fun x y h => ?_⟩
      · rcases List.mem_cons.1 hx with rfl | hx
        · exact RootOk_q s1 (hrv _ (by rw [← hYY]; grind))
        · rw [List.mem_singleton] at hx
          subst hx
          exact RootOk_q s2 (hrv _ hYY)
      · rw [hv p q r hr, ← hYY, zero_rat hr]
        have e1 : p - P - U * ρ = p - (P + U * ρ) := by grind
        have e2 : p - P + U * ρ = p - (P + -U * ρ) := by grind
        rw [e1, e2, ← cm_q, ← cm_q]
        simp only [List.mem_cons, List.not_mem_nil, or_false, exists_eq_or_imp, exists_eq_left]
        exact Or.comm
      · cases h
        simp only []
        rw [cm_q]
        have e : P + -U * ρ - (P + U * ρ) = -(U * ρ + U * ρ) := by grind
        rw [e, sgS_q]
        unfold sgn
        grind
    · obtain ⟨t1, t2, t3, t4, t5, t6, t7, t8⟩ := normX_irr (b := -U) sP (by rw [sz_neg']; exact sU) sD hneg (by grind) hq
      obtain ⟨_, u2, _, _, u5, u6, _, _⟩ := normX_irr sP sU sD hneg (by grind) hq
      unfold normX
      rw [if_neg hq, if_neg hq]
      have sg1 : -U / (D.den : Rat) < 0 := by
        have : -U / (D.den : Rat) * (D.den : Rat) = -U := Rat.div_mul_cancel (by grind)
        rcases sgn3 (-U / (D.den : Rat)) with ⟨h, _⟩ | ⟨h, _⟩ | ⟨h, _⟩
        · exact h
        · rw [h] at this; grind
        · have := mp h t8; grind
      have sg2 : 0 < U / (D.den : Rat) := by
        have : U / (D.den : Rat) * (D.den : Rat) = U := Rat.div_mul_cancel (by grind)
        rcases sgn3 (U / (D.den : Rat)) with ⟨h, _⟩ | ⟨h, _⟩ | ⟨h, _⟩
        · have := mnp h t8; grind
        · rw [h] at this; grind
        · exact h
      generalize -U / (D.den : Rat) = V1 at *
      generalize U / (D.den : Rat) = V2 at *
      generalize ((D.num : Int) : Rat) * (D.den : Rat) = R at *
      have e1 : -U * -U * D = U * U * D := by grind
      rw [e1] at t6
      have hY : 0 < U * U * D := mp hUs hD
      have k1 : sgn V1 = -1 := by rcases sgn3 V1 with ⟨h, k⟩ | ⟨h, k⟩ | ⟨h, k⟩ <;> first | exact k | grind
      have k2 : sgn V2 = 1 := by rcases sgn3 V2 with ⟨h, k⟩ | ⟨h, k⟩ | ⟨h, k⟩ <;> first | exact k | grind
      have k3 : sgn R = 1 := by rcases sgn3 R with ⟨h, k⟩ | ⟨h, k⟩ | ⟨h, k⟩ <;> first | exact k | grind
      have q1 : tOf V1 R = -1 := by unfold tOf; rw [k1, k3]; rfl
      have q2 : tOf V2 R = 1 := by unfold tOf; rw [k2, k3]; rfl
      have e3 : b = -(P * (a + a)) := by grind
      have zz : ∀ V : Rat, V * V * R = U * U * D → a * (P * P + V * V * R) + b * P + c = 0 ∧ a * (2 * P * V) + b * V = 0 := by
        intro V hV
        rw [hV, ← hDD]
        subst e3
        constructor
        · grind
        · grind
      refine ⟨fun x hx => ?_, fun p q r hr => ?_, fun x y h => ?_⟩
      · rcases List.mem_cons.1 hx with rfl | hx
        · exact ⟨t1, t2, t3, t4, t5, zz V1 t6⟩
        · rw [List.mem_singleton] at hx
          subst hx
          exact ⟨t1, u2, t3, t4, u5, zz V2 u6⟩
      · rw [hv p q r hr]
        simp only [List.mem_cons, List.not_mem_nil, or_false, exists_eq_or_imp, exists_eq_left]
        rw [cmS0, cmS0, q1, q2, t6, u6]
        constructor
        · intro h
          have := zero_ne hr hY h
          rcases sgS3 (p - P) q r with h3 | h3 | h3
          · exact .inl ⟨h3, .inr h⟩
          · exact absurd h3 this
          · exact .inr ⟨h3, .inr h⟩
        · rintro (⟨h1, h2 | h2⟩ | ⟨h1, h2 | h2⟩)
          · omega
          · exact h2
          · omega
          · exact h2
      · cases h
        simp only []
        have e : P - P = 0 := by grind
        have e2 : sgS 0 V1 R = -1 := by
          unfold sgS Go.Am.sg2
          rw [q1]
          have z00 : sgn 0 = 0 := rfl
          rw [z00]
          rfl
        unfold cmS
        rw [e, e2, q2]
        rfl
theorem zeros_loop1 {a b c : Rat} {l : List (Rat × Rat × Rat)} (ha : sz a ≤ 256) (hb : sz b ≤ 256) (hc : sz c ≤ 256) (hl : l.length ≤ 2) (h : RootsOk a b c l) : Loop (fun (s : Int) => m_l_ExactZeros_l1 a b c l s) 0 = some (Ex.brk ()) := by
  obtain ⟨r, hr, rfl⟩ := Loop_run (body := fun (s : Int) => m_l_ExactZeros_l1 a b c l s) 0 (fun s => ∃ i : Nat, i ≤ l.length ∧ s = (i : Int)) (fun s => (l.length - s).toNat) (fun r => r = Ex.brk ()) ⟨0, Nat.zero_le _, rfl⟩ (by
    rintro s ⟨i, hi, rfl⟩
    unfold m_l_ExactZeros_l1
    by_cases hlt : i < l.length
    · left
      have ho := h.ok l[i] (List.getElem_mem hlt)
      rw [if_pos (decide_eq_true (by omega)), ix_get hlt]
      obtain ⟨A, B, f1, rfl, rfl, f4⟩ := value_is ha hb hc ho.z1 ho.z2 ho.z3 ho.nn
      haveI : Bd l[i].1 10000000 := ⟨ho.z1⟩
      haveI : Bd l[i].2.1 10000000 := ⟨ho.z2⟩
      haveI : Bd l[i].2.2 10000000 := ⟨ho.z3⟩
      have g1 : m_l_same l[i].1 l[i].1 = some true := same_B (by decide)
      have g2 : m_l_same l[i].2.1 l[i].2.1 = some true := same_B (by decide)
      have g3 : m_l_same l[i].2.2 l[i].2.2 = some true := same_B (by decide)
      have g4 := ho.nf
      rw [ho.zero.1, ho.zero.2] at f4 f1
      have g5 : sgS 0 0 l[i].2.2 = 0 := by rw [zero_iff ho.nn]; constructor <;> grind
      rw [g5] at f4
      have gc : 0 < i → ∃ x, ix l (IntKind.i64.wrap ((i : Int) - 1)) = some x ∧ m_Surd_Cmp x.1 x.2.1 x.2.2 l[i].1 l[i].2.1 l[i].2.2 = some (-1, 0) := by
        intro h0
        have i1 : i = 1 := by omega
        subst i1
        match l, hl, hlt, h with
        | [x, y], _, _, h =>
          have hx := h.ok x (by simp)
          have hy := h.ok y (by simp)
          refine ⟨x, rfl, ?_⟩
          have e2 : [x, y][1] = y := rfl
          rw [e2, Cmp_is hx.z1 hx.z2 hx.z3 hx.nn hy.z1 hy.z2 hy.z3 hy.nn, h.up x y rfl]
      have ew : IntKind.i64.wrap ((i : Int) + 1) = ((i + 1 : Nat) : Int) := by rw [i64_in (by omega)]; omega
      simp only [Option.bind_some, f1, f4, g4, g1, g2, g3]
      rw [ew]
      refine ⟨_, ?_, ⟨i + 1, hlt, rfl⟩, by omega⟩
      by_cases h0 : 0 < i
      · obtain ⟨x, gx, gc⟩ := gc h0
        have h1 : ((i : Int) > 0) := by omega
        simp [h0, gx, gc]
      · simp [h0]
    · right
      rw [if_neg (by simp; omega)]
      exact ⟨_, rfl, rfl⟩)
  exact hr
theorem zeros_loop2 {a b c p q r : Rat} {l : List (Rat × Rat × Rat)} (hp : sz p ≤ 256) (hq : sz q ≤ 256) (hr : sz r ≤ 256) (h0 : ¬ r < 0) (hl : l.length ≤ 2) (h : RootsOk a b c l) :
    ∃ t, Loop (fun (s : Bool × Int) => m_l_ExactZeros_l2 p q r l s.1 s.2) (false, 0) = some t ∧ (t = true ↔ ∃ x ∈ l, cmS p q r x.1 x.2.1 x.2.2 = 0) := by
  refine Loop_run (body := fun (s : Bool × Int) => m_l_ExactZeros_l2 p q r l s.1 s.2) (false, 0) (fun s => ∃ i : Nat, i ≤ l.length ∧ s.2 = (i : Int) ∧ (s.1 = true ↔ ∃ x ∈ l.take i, cmS p q r x.1 x.2.1 x.2.2 = 0)) (fun s => (l.length - s.2).toNat) (fun t => t = true ↔ ∃ x ∈ l, cmS p q r x.1 x.2.1 x.2.2 = 0) ⟨0, Nat.zero_le _, rfl, by simp⟩ ?_
  rintro ⟨t, s⟩ ⟨i, hi, hs, ht⟩
  simp only at hs ht
  subst hs
  unfold m_l_ExactZeros_l2
  by_cases hlt : i < l.length
  · left
    have ho := h.ok l[i] (List.getElem_mem hlt)
    have ec := Cmp_is (p := p) (q := q) (r := r) (by omega) (by omega) (by omega) h0 ho.z1 ho.z2 ho.z3 ho.nn
    have ew : IntKind.i64.wrap ((i : Int) + 1) = ((i + 1 : Nat) : Int) := by rw [i64_in (by omega)]; omega
    simp only
    rw [if_pos (decide_eq_true (by omega)), ix_get hlt]
    simp only [Option.bind_some, ec]
    rw [ew]
    have ht' : (∃ x ∈ l.take (i + 1), cmS p q r x.1 x.2.1 x.2.2 = 0) ↔ (t = true ∨ cmS p q r l[i].1 l[i].2.1 l[i].2.2 = 0) := by
      rw [List.take_add_one, List.getElem?_eq_getElem hlt, ht]
      simp only [Option.toList_some, List.mem_append, List.mem_singleton]
      constructor
      · rintro ⟨x, hx | rfl, h⟩
        · exact .inl ⟨x, hx, h⟩
        · exact .inr h
      · rintro (⟨x, hx, h⟩ | h)
        · exact ⟨x, .inl hx, h⟩
        · exact ⟨_, .inr rfl, h⟩
    cases t with
    | true =>
      refine ⟨(true, ((i + 1 : Nat) : Int)), by simp, ⟨i + 1, hlt, rfl, ?_⟩, by simp only; omega⟩
      simp only
      rw [ht']
      simp
    | false =>
      refine ⟨((cmS p q r l[i].1 l[i].2.1 l[i].2.2 == 0), ((i + 1 : Nat) : Int)), by simp, ⟨i + 1, hlt, rfl, ?_⟩, by simp only; omega⟩
      simp only
      rw [ht']
      simp
  · right
    have : i = l.length := by omega
    subst this
    rw [List.take_length] at ht
    simp only
    rw [if_neg (by simp)]
    exact ⟨_, rfl, ht⟩
theorem Zeros_true (a1 a2 a3 a4 a5 a6 a7 a8 a9 a10 a11 a12 a13 a14 a15 a16 a17 a18 : Int)
    (h1 : i64r a1) (h2 : i64r a2) (h3 : 0 ≤ a3 ∧ a3 ≤ 255) (h4 : i64r a4) (h5 : i64r a5) (h6 : 0 ≤ a6 ∧ a6 ≤ 255) (h7 : i64r a7) (h8 : i64r a8) (h9 : 0 ≤ a9 ∧ a9 ≤ 255)
    (h10 : i64r a10) (h11 : i64r a11) (h12 : 0 ≤ a12 ∧ a12 ≤ 255) (h13 : i64r a13) (h14 : i64r a14) (h15 : 0 ≤ a15 ∧ a15 ≤ 255) (h16 : i64r a16) (h17 : i64r a17) (h18 : 0 ≤ a18 ∧ a18 ≤ 255) :
    m_l_ExactZeros a1 a2 a3 a4 a5 a6 a7 a8 a9 a10 a11 a12 a13 a14 a15 a16 a17 a18 = some true := by
  obtain ⟨e1, s1⟩ := Both_is a1 a2 a3 h1 h2 h3
  obtain ⟨e2, s2⟩ := Both_is a4 a5 a6 h4 h5 h6
  obtain ⟨e3, s3⟩ := Both_is a7 a8 a9 h7 h8 h9
  obtain ⟨p, q, r, e4, sp, sq, sr⟩ := both_is a10 a11 a12 a13 a14 a15 a16 a17 a18 h10 h11 h12 h13 h14 h15 h16 h17 h18
  unfold m_l_ExactZeros
  rw [e1, e2, e3, e4]
  generalize bothX a1 a2 a3 = x at *
  generalize bothX a4 a5 a6 = y at *
  generalize bothX a7 a8 a9 = z at *
  obtain ⟨r1, _, _⟩ := Roots_is x y z s1 s2 s3
  have hz : sgn 0 = 0 := rfl
  simp only [Option.bind_some, r1]
  by_cases hall : x = 0 ∧ y = 0 ∧ z = 0
  · obtain ⟨rfl, rfl, rfl⟩ := hall
    simp [q_sign, hz]
  · have hR := roots_ok x y z s1 s2 s3 hall
    have hL := rootsX_len x y z
    rw [if_neg hall, zeros_loop1 s1 s2 s3 hL hR]
    by_cases hr : r < 0
    · have : ¬ (0 ≤ sgn r) := by unfold sgn; grind
      simp [this, awake_true]
    · have : 0 ≤ sgn r := by unfold sgn; grind
      obtain ⟨t, f1, f2⟩ := zeros_loop2 sp sq sr hr hL hR
      obtain ⟨A, B, g1, rfl, rfl, g4⟩ := value_is s1 s2 s3 (p := p) (q := q) (r := r) (by omega) (by omega) (by omega) hr
      have hv := hR.all p q r hr
      rw [← f2] at hv
      have hv' : (t == (sgS (x * (p * p + q * q * r) + y * p + z) (x * (2 * p * q) + y * q) r == 0)) = true := by
        unfold vz at hv
        cases t <;> simp_all
      simp only [Option.bind_some, bne_self_eq_false, Bool.false_eq_true, if_false, this, ge_iff_le, decide_true, Bool.not_true, g1, g4, f1]
      rw [if_pos hv', awake_true]
      rfl
end Go.Am
