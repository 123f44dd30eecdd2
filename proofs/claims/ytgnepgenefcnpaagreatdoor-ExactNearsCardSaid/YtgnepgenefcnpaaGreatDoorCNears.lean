/- ExactNears: the walk of the law, and its plain law: it returns true for every input. No condition. -/
import Derived.Test.YtgnepgenefcnpaaGreatDoorBaH
set_option linter.unusedVariables false
set_option linter.unusedSimpArgs false
namespace Go.Am
open Go.RowKit
set_option maxRecDepth 100000
noncomputable section
def m_l_ExactNears (a1 : Int) (a2 : Int) (a3 : Int) (a4 : Int) (a5 : Int) : Option Bool := (m_l_Both a1 a2 a3).bind fun (v6, v7) => ((if (decide (a4 > 60)) = true then some ((Int.tmod a4 60)) else some (a4))).bind fun v12 => (q_near v6 v12).bind fun (v13, v14) => (q_root v6 a5).bind fun (v16, v17) => ((if (decide (v12 < 1)) = true then (if (v14 != 3) = true then some (Ex.ret false) else (q_sign v13).bind fun v23 => (if (v23 != 0) = true then some (Ex.ret false) else some (Ex.brk ()))) else (if (v14 != 0) = true then some (Ex.ret false) else (r_near v7 v12).bind fun v27 => (m_l_Same v13 v27).bind fun v29 => (if (!v29) = true then some (Ex.ret false) else some (Ex.brk ()))))).bind fun o19 => (match o19 with | Ex.brk () => (if (decide (a5 < 0)) = true then (if (v17 == 3) = true then (q_sign v16).bind fun v34 => (if (v34 == 0) = true then (m_l_awake).bind fun v37 => some v37 else some false) else some false) else (if (decide (a5 > 64)) = true then (if (v17 == 3) = true then (q_sign v16).bind fun v41 => (if (v41 == 0) = true then (m_l_awake).bind fun v44 => some v44 else some false) else some false) else (q_sign v7).bind fun v46 => (if (decide (v46 < 0)) = true then (if (v17 == 8) = true then (q_sign v16).bind fun v50 => (if (v50 == 0) = true then (m_l_awake).bind fun v53 => some v53 else some false) else some false) else (if (v17 == 0) = true then (r_root v7 a5).bind fun v56 => (m_l_Same v16 v56).bind fun v58 => (if v58 = true then (m_l_awake).bind fun v61 => some v61 else some false) else some false)))) | Ex.ret r63 => some r63)
theorem C_l_ExactNears {a1 : Int} {a2 : Int} {a3 : Int} {a4 : Int} {a5 : Int} {r64 : Bool} (h : m_l_ExactNears a1 a2 a3 a4 a5 = some r64) : CtrG PP 4 [] [D.agg ([D.int .i64 a1, D.int .i64 a2, D.int .u8 a3]), D.int .i64 a4, D.int .i64 a5] [] (D.bool r64) := by
  unfold m_l_ExactNears at h
  refine .of Go.Proofs.Tryz.func4 rfl (by kernel_rfl) rfl rfl rfl rfl rfl rfl (fun A w0 L b => ?_)
  show Ok PP _ [(0, D.agg ([D.int .i64 a1, D.int .i64 a2, D.int .u8 a3])), (1, D.int .i64 a4), (2, D.int .i64 a5)] [] _ _
  refine .reg (.bxA rfl rfl <| .asg rfl <| .nil) rfl ?_
  obtain ⟨⟨v6, v7⟩, e8, h⟩ := bind_some h
  refine .reg (.ldE ([D.int .i64 a1, D.int .i64 a2, D.int .u8 a3]) rfl rfl ly_amblelaw01_Num rfl rfl <| .callG (C_l_Both e8) ⟨rfl, trivial⟩ trivial trivial <| .mv rfl <| .ext rfl rfl <| .ext rfl rfl <| .alL (qC (0)) z_exact_Q ⟨zq1, zq2, zq3, trivial⟩ rfl <| .alL (rqC (0)) z_ambleref01_Q ⟨zr1, zr2, .refl _, zr4, trivial⟩ rfl <| .stE (qC (v6)) rfl rfl rfl ly_exact_Q rfl rfl rfl <| .stE (rqC (v7)) rfl rfl rfl ly_ambleref01_Q rfl rfl rfl <| .nil) rfl ?_
  obtain ⟨v12, hp10, h⟩ := bind_some h
  refine .cutX (fun i => v12 = i) (fun (i : Int) => [(1, D.int .i64 i), (2, D.int .i64 a5), (7, D.ref 7 0), (8, D.ref 8 0)]) (fun (i : Int) => [(7, Hp.box 28 (qC (v6))), (8, Hp.box 37 (rqC (v7)))]) ?_ ?_
  · have ho1 := h
    clear h
    have h := hp10
    clear hp10
    refine .reg (.mv rfl <| .cm rfl rfl rfl <| .nil) rfl ?_
    by_cases c11 : (decide (a4 > 60)) = true
    · replace h := ite_pos_some c11 h
      refine .cTb rfl c11 ?_
      refine .region (.mv rfl <| .ar rfl rfl (irem (by decide)) <| .asg rfl <| .nil) rfl (fun _ _ hs => ⟨(Int.tmod a4 60), (Option.some.inj h).symm, hs.sub ⟨⟨_, rfl, .refl _⟩, ⟨_, rfl, .refl _⟩, ⟨_, rfl, .refl _⟩, ⟨_, rfl, .refl _⟩, trivial⟩ ⟨⟨_, rfl, .refl _⟩, ⟨_, rfl, .refl _⟩, trivial⟩ rfl rfl⟩)
    · replace h := ite_neg_some c11 h
      refine .cFb rfl c11 ?_
      refine .skip (fun _ _ hs => ⟨a4, (Option.some.inj h).symm, hs.sub ⟨⟨_, rfl, .refl _⟩, ⟨_, rfl, .refl _⟩, ⟨_, rfl, .refl _⟩, ⟨_, rfl, .refl _⟩, trivial⟩ ⟨⟨_, rfl, .refl _⟩, ⟨_, rfl, .refl _⟩, trivial⟩ rfl rfl⟩)
  · rintro _ rfl
    show Ok PP _ [(1, D.int .i64 v12), (2, D.int .i64 a5), (7, D.ref 7 0), (8, D.ref 8 0)] [(7, Hp.box 28 (qC (v6))), (8, Hp.box 37 (rqC (v7)))] _ _
    obtain ⟨⟨v13, v14⟩, e15, h⟩ := bind_some h
    refine .reg (.ldE (qC (v6)) rfl rfl ly_exact_Q rfl rfl <| .mv rfl <| .callG (Q_near e15) ⟨rfl, rfl, trivial⟩ trivial trivial <| .mv rfl <| .ext rfl rfl <| .ext rfl rfl <| .alL (qC (0)) z_exact_Q ⟨zq1, zq2, zq3, trivial⟩ rfl <| .stE (qC (v13)) rfl rfl rfl ly_exact_Q rfl rfl rfl <| .asg rfl <| .nil) rfl ?_
    obtain ⟨⟨v16, v17⟩, e18, h⟩ := bind_some h
    refine .reg (.ldE (qC (v6)) rfl rfl ly_exact_Q rfl rfl <| .mv rfl <| .callG (Q_root e18) ⟨rfl, rfl, trivial⟩ trivial trivial <| .mv rfl <| .ext rfl rfl <| .ext rfl rfl <| .alL (qC (0)) z_exact_Q ⟨zq1, zq2, zq3, trivial⟩ rfl <| .stE (qC (v16)) rfl rfl rfl ly_exact_Q rfl rfl rfl <| .asg rfl <| .nil) rfl ?_
    obtain ⟨o19, hp20, h⟩ := bind_some h
    refine .cutX (fun i => o19 = Ex.brk i) (fun (i : Unit) => [(2, D.int .i64 a5), (8, D.ref 8 0), (11, D.ref 11 0), (12, D.int .i64 v17)]) (fun (i : Unit) => [(8, Hp.box 37 (rqC (v7))), (11, Hp.box 28 (qC (v16)))]) ?_ ?_
    · have ho1 := h
      clear h
      have h := hp20
      clear hp20
      refine .reg (.mv rfl <| .cm rfl rfl rfl <| .nil) rfl ?_
      by_cases c21 : (decide (v12 < 1)) = true
      · replace h := ite_pos_some c21 h
        refine .cTb rfl c21 ?_
        by_cases c22 : (v14 != 3) = true
        · replace h := ite_pos_some c22 h
          refine .reg (.mv rfl <| .cm rfl rfl rfl <| .mv rfl <| .gNf rfl rfl rfl c22 <| .gNf rfl rfl rfl c22 <| .gNf rfl rfl rfl c22 <| .pkTb rfl c22 rfl <| .nil) rfl ?_
          refine .cTb rfl rfl ?_
          refine .reg (.asg rfl <| .nil) rfl ?_
          cases h
          have h := ho1
          clear ho1
          cases h
          refine .retG (fun _ _ hb => hb) rfl (.cons (.tmp rfl) .nil) (.refl _) trivial trivial
        · replace h := ite_neg_some c22 h
          obtain ⟨v23, e24, h⟩ := bind_some h
          refine .reg (.mv rfl <| .cm rfl rfl rfl <| .mv rfl <| .gYf rfl rfl rfl c22 <| .ldE (qC (v13)) rfl rfl ly_exact_Q rfl rfl <| .gYf rfl rfl rfl c22 <| .callG (Q_sign e24) ⟨rfl, trivial⟩ trivial trivial <| .gYf rfl rfl rfl c22 <| .cm rfl rfl rfl <| .pkFb rfl c22 rfl <| .nil) rfl ?_
          by_cases c25 : (v23 != 0) = true
          · replace h := ite_pos_some c25 h
            refine .cTb rfl c25 ?_
            refine .reg (.asg rfl <| .nil) rfl ?_
            cases h
            have h := ho1
            clear ho1
            cases h
            refine .retG (fun _ _ hb => hb) rfl (.cons (.tmp rfl) .nil) (.refl _) trivial trivial
          · replace h := ite_neg_some c25 h
            refine .cFb rfl c25 ?_
            refine .skip (fun _ _ hs => ⟨(), (Option.some.inj h).symm, hs.sub ⟨⟨_, rfl, .refl _⟩, ⟨_, rfl, .refl _⟩, ⟨_, rfl, .refl _⟩, ⟨_, rfl, .refl _⟩, trivial⟩ ⟨⟨_, rfl, .refl _⟩, ⟨_, rfl, .refl _⟩, trivial⟩ rfl rfl⟩)
      · replace h := ite_neg_some c21 h
        refine .cFb rfl c21 ?_
        by_cases c26 : (v14 != 0) = true
        · replace h := ite_pos_some c26 h
          refine .regD hmix (.mv rfl <| .cm rfl rfl rfl <| .mv rfl <| .gNf rfl rfl rfl c26 <| .gNf rfl rfl rfl c26 <| .gNf rfl rfl rfl c26 <| .gNf rfl rfl rfl c26 <| .gNf rfl rfl rfl c26 <| .gNf rfl rfl rfl c26 <| .pkTb rfl c26 rfl <| .nil) rfl (by kernel_rfl) ?_
          refine .cTb rfl rfl ?_
          refine .reg (.asg rfl <| .nil) rfl ?_
          cases h
          have h := ho1
          clear ho1
          cases h
          refine .retG (fun _ _ hb => hb) rfl (.cons (.tmp rfl) .nil) (.refl _) trivial trivial
        · replace h := ite_neg_some c26 h
          obtain ⟨v27, e28, h⟩ := bind_some h
          obtain ⟨v29, e30, h⟩ := bind_some h
          refine .regD hmix (.mv rfl <| .cm rfl rfl rfl <| .mv rfl <| .gYf rfl rfl rfl c26 <| .ldE (qC (v13)) rfl rfl ly_exact_Q rfl rfl <| .gYf rfl rfl rfl c26 <| .ldE (rqC (v7)) rfl rfl ly_ambleref01_Q rfl rfl <| .gYf rfl rfl rfl c26 <| .mv rfl <| .gYf rfl rfl rfl c26 <| .callG (R_near e28) ⟨rfl, rfl, trivial⟩ trivial trivial <| .gYf rfl rfl rfl c26 <| .callG (C_l_Same e30) ⟨rfl, rfl, trivial⟩ trivial trivial <| .gYf rfl rfl rfl c26 <| .not rfl <| .pkFb rfl c26 rfl <| .nil) rfl (by kernel_rfl) ?_
          by_cases c31 : (!v29) = true
          · replace h := ite_pos_some c31 h
            refine .cTb rfl c31 ?_
            refine .reg (.asg rfl <| .nil) rfl ?_
            cases h
            have h := ho1
            clear ho1
            cases h
            refine .retG (fun _ _ hb => hb) rfl (.cons (.tmp rfl) .nil) (.refl _) trivial trivial
          · replace h := ite_neg_some c31 h
            refine .cFb rfl c31 ?_
            refine .skip (fun _ _ hs => ⟨(), (Option.some.inj h).symm, hs.sub ⟨⟨_, rfl, .refl _⟩, ⟨_, rfl, .refl _⟩, ⟨_, rfl, .refl _⟩, ⟨_, rfl, .refl _⟩, trivial⟩ ⟨⟨_, rfl, .refl _⟩, ⟨_, rfl, .refl _⟩, trivial⟩ rfl rfl⟩)
    · rintro ⟨⟩ rfl
      show Ok PP _ [(2, D.int .i64 a5), (8, D.ref 8 0), (11, D.ref 11 0), (12, D.int .i64 v17)] [(8, Hp.box 37 (rqC (v7))), (11, Hp.box 28 (qC (v16)))] _ _
      refine .sq ?_
      by_cases c32 : (decide (a5 < 0)) = true
      · replace h := ite_pos_some c32 h
        refine .reg (.mv rfl <| .cm rfl rfl rfl <| .mv rfl <| .gNf rfl rfl rfl c32 <| .gNf rfl rfl rfl c32 <| .pkTb rfl c32 rfl <| .nil) rfl ?_
        refine .cTb rfl rfl ?_
        by_cases c33 : (v17 == 3) = true
        · replace h := ite_pos_some c33 h
          obtain ⟨v34, e35, h⟩ := bind_some h
          by_cases c36 : (v34 == 0) = true
          · replace h := ite_pos_some c36 h
            obtain ⟨v37, e38, h⟩ := bind_some h
            refine .reg (.mv rfl <| .cm rfl rfl rfl <| .mv rfl <| .gYt rfl rfl rfl c33 <| .ldE (qC (v16)) rfl rfl ly_exact_Q rfl rfl <| .gYt rfl rfl rfl c33 <| .callG (Q_sign e35) ⟨rfl, trivial⟩ trivial trivial <| .gYt rfl rfl rfl c33 <| .cm rfl rfl rfl <| .pkTb rfl c33 rfl <| .mv rfl <| .gYt rfl rfl rfl c36 <| .callG (C_l_awake e38) trivial trivial trivial <| .pkTb rfl c36 rfl <| .asg rfl <| .nil) rfl ?_
            cases h
            refine .retG (fun _ _ hb => hb) rfl (.cons (.tmp rfl) .nil) (.refl _) trivial trivial
          · replace h := ite_neg_some c36 h
            refine .reg (.mv rfl <| .cm rfl rfl rfl <| .mv rfl <| .gYt rfl rfl rfl c33 <| .ldE (qC (v16)) rfl rfl ly_exact_Q rfl rfl <| .gYt rfl rfl rfl c33 <| .callG (Q_sign e35) ⟨rfl, trivial⟩ trivial trivial <| .gYt rfl rfl rfl c33 <| .cm rfl rfl rfl <| .pkTb rfl c33 rfl <| .mv rfl <| .gNt rfl rfl rfl c36 <| .pkFb rfl c36 rfl <| .asg rfl <| .nil) rfl ?_
            cases h
            refine .retG (fun _ _ hb => hb) rfl (.cons (.tmp rfl) .nil) (.refl _) trivial trivial
        · replace h := ite_neg_some c33 h
          refine .reg (.mv rfl <| .cm rfl rfl rfl <| .mv rfl <| .gNt rfl rfl rfl c33 <| .gNt rfl rfl rfl c33 <| .gNt rfl rfl rfl c33 <| .pkFb rfl c33 rfl <| .mv rfl <| .gNt rfl rfl rfl (by decide) <| .pkFb rfl (by decide) rfl <| .asg rfl <| .nil) rfl ?_
          cases h
          refine .retG (fun _ _ hb => hb) rfl (.cons (.tmp rfl) .nil) (.refl _) trivial trivial
      · replace h := ite_neg_some c32 h
        refine .reg (.mv rfl <| .cm rfl rfl rfl <| .mv rfl <| .gYf rfl rfl rfl c32 <| .mv rfl <| .gYf rfl rfl rfl c32 <| .cm rfl rfl rfl <| .pkFb rfl c32 rfl <| .nil) rfl ?_
        by_cases c39 : (decide (a5 > 64)) = true
        · replace h := ite_pos_some c39 h
          refine .cTb rfl c39 ?_
          by_cases c40 : (v17 == 3) = true
          · replace h := ite_pos_some c40 h
            obtain ⟨v41, e42, h⟩ := bind_some h
            by_cases c43 : (v41 == 0) = true
            · replace h := ite_pos_some c43 h
              obtain ⟨v44, e45, h⟩ := bind_some h
              refine .reg (.mv rfl <| .cm rfl rfl rfl <| .mv rfl <| .gYt rfl rfl rfl c40 <| .ldE (qC (v16)) rfl rfl ly_exact_Q rfl rfl <| .gYt rfl rfl rfl c40 <| .callG (Q_sign e42) ⟨rfl, trivial⟩ trivial trivial <| .gYt rfl rfl rfl c40 <| .cm rfl rfl rfl <| .pkTb rfl c40 rfl <| .mv rfl <| .gYt rfl rfl rfl c43 <| .callG (C_l_awake e45) trivial trivial trivial <| .pkTb rfl c43 rfl <| .asg rfl <| .nil) rfl ?_
              cases h
              refine .retG (fun _ _ hb => hb) rfl (.cons (.tmp rfl) .nil) (.refl _) trivial trivial
            · replace h := ite_neg_some c43 h
              refine .reg (.mv rfl <| .cm rfl rfl rfl <| .mv rfl <| .gYt rfl rfl rfl c40 <| .ldE (qC (v16)) rfl rfl ly_exact_Q rfl rfl <| .gYt rfl rfl rfl c40 <| .callG (Q_sign e42) ⟨rfl, trivial⟩ trivial trivial <| .gYt rfl rfl rfl c40 <| .cm rfl rfl rfl <| .pkTb rfl c40 rfl <| .mv rfl <| .gNt rfl rfl rfl c43 <| .pkFb rfl c43 rfl <| .asg rfl <| .nil) rfl ?_
              cases h
              refine .retG (fun _ _ hb => hb) rfl (.cons (.tmp rfl) .nil) (.refl _) trivial trivial
          · replace h := ite_neg_some c40 h
            refine .reg (.mv rfl <| .cm rfl rfl rfl <| .mv rfl <| .gNt rfl rfl rfl c40 <| .gNt rfl rfl rfl c40 <| .gNt rfl rfl rfl c40 <| .pkFb rfl c40 rfl <| .mv rfl <| .gNt rfl rfl rfl (by decide) <| .pkFb rfl (by decide) rfl <| .asg rfl <| .nil) rfl ?_
            cases h
            refine .retG (fun _ _ hb => hb) rfl (.cons (.tmp rfl) .nil) (.refl _) trivial trivial
        · replace h := ite_neg_some c39 h
          refine .cFb rfl c39 ?_
          refine .skip (Ok.on ?_)
          refine .sq ?_
          obtain ⟨v46, e47, h⟩ := bind_some h
          refine .reg (.ldE (rqC (v7)) rfl rfl ly_ambleref01_Q rfl rfl <| .callG (R_sign e47) ⟨rfl, trivial⟩ trivial trivial <| .cm rfl rfl rfl <| .nil) rfl ?_
          by_cases c48 : (decide (v46 < 0)) = true
          · replace h := ite_pos_some c48 h
            refine .cTb rfl c48 ?_
            by_cases c49 : (v17 == 8) = true
            · replace h := ite_pos_some c49 h
              obtain ⟨v50, e51, h⟩ := bind_some h
              by_cases c52 : (v50 == 0) = true
              · replace h := ite_pos_some c52 h
                obtain ⟨v53, e54, h⟩ := bind_some h
                refine .reg (.mv rfl <| .cm rfl rfl rfl <| .mv rfl <| .gYt rfl rfl rfl c49 <| .ldE (qC (v16)) rfl rfl ly_exact_Q rfl rfl <| .gYt rfl rfl rfl c49 <| .callG (Q_sign e51) ⟨rfl, trivial⟩ trivial trivial <| .gYt rfl rfl rfl c49 <| .cm rfl rfl rfl <| .pkTb rfl c49 rfl <| .mv rfl <| .gYt rfl rfl rfl c52 <| .callG (C_l_awake e54) trivial trivial trivial <| .pkTb rfl c52 rfl <| .asg rfl <| .nil) rfl ?_
                cases h
                refine .retG (fun _ _ hb => hb) rfl (.cons (.tmp rfl) .nil) (.refl _) trivial trivial
              · replace h := ite_neg_some c52 h
                refine .reg (.mv rfl <| .cm rfl rfl rfl <| .mv rfl <| .gYt rfl rfl rfl c49 <| .ldE (qC (v16)) rfl rfl ly_exact_Q rfl rfl <| .gYt rfl rfl rfl c49 <| .callG (Q_sign e51) ⟨rfl, trivial⟩ trivial trivial <| .gYt rfl rfl rfl c49 <| .cm rfl rfl rfl <| .pkTb rfl c49 rfl <| .mv rfl <| .gNt rfl rfl rfl c52 <| .pkFb rfl c52 rfl <| .asg rfl <| .nil) rfl ?_
                cases h
                refine .retG (fun _ _ hb => hb) rfl (.cons (.tmp rfl) .nil) (.refl _) trivial trivial
            · replace h := ite_neg_some c49 h
              refine .reg (.mv rfl <| .cm rfl rfl rfl <| .mv rfl <| .gNt rfl rfl rfl c49 <| .gNt rfl rfl rfl c49 <| .gNt rfl rfl rfl c49 <| .pkFb rfl c49 rfl <| .mv rfl <| .gNt rfl rfl rfl (by decide) <| .pkFb rfl (by decide) rfl <| .asg rfl <| .nil) rfl ?_
              cases h
              refine .retG (fun _ _ hb => hb) rfl (.cons (.tmp rfl) .nil) (.refl _) trivial trivial
          · replace h := ite_neg_some c48 h
            refine .cFb rfl c48 ?_
            refine .skip (Ok.on ?_)
            by_cases c55 : (v17 == 0) = true
            · replace h := ite_pos_some c55 h
              obtain ⟨v56, e57, h⟩ := bind_some h
              obtain ⟨v58, e59, h⟩ := bind_some h
              by_cases c60 : v58 = true
              · replace h := ite_pos_some c60 h
                obtain ⟨v61, e62, h⟩ := bind_some h
                refine .regD hmix (.mv rfl <| .cm rfl rfl rfl <| .mv rfl <| .gYt rfl rfl rfl c55 <| .ldE (qC (v16)) rfl rfl ly_exact_Q rfl rfl <| .gYt rfl rfl rfl c55 <| .ldE (rqC (v7)) rfl rfl ly_ambleref01_Q rfl rfl <| .gYt rfl rfl rfl c55 <| .mv rfl <| .gYt rfl rfl rfl c55 <| .callG (R_root e57) ⟨rfl, rfl, trivial⟩ trivial trivial <| .gYt rfl rfl rfl c55 <| .callG (C_l_Same e59) ⟨rfl, rfl, trivial⟩ trivial trivial <| .pkTb rfl c55 rfl <| .mv rfl <| .gYt rfl rfl rfl c60 <| .callG (C_l_awake e62) trivial trivial trivial <| .pkTb rfl c60 rfl <| .asg rfl <| .nil) rfl (by kernel_rfl) ?_
                cases h
                refine .retG (fun _ _ hb => hb) rfl (.cons (.tmp rfl) .nil) (.refl _) trivial trivial
              · replace h := ite_neg_some c60 h
                refine .regD hmix (.mv rfl <| .cm rfl rfl rfl <| .mv rfl <| .gYt rfl rfl rfl c55 <| .ldE (qC (v16)) rfl rfl ly_exact_Q rfl rfl <| .gYt rfl rfl rfl c55 <| .ldE (rqC (v7)) rfl rfl ly_ambleref01_Q rfl rfl <| .gYt rfl rfl rfl c55 <| .mv rfl <| .gYt rfl rfl rfl c55 <| .callG (R_root e57) ⟨rfl, rfl, trivial⟩ trivial trivial <| .gYt rfl rfl rfl c55 <| .callG (C_l_Same e59) ⟨rfl, rfl, trivial⟩ trivial trivial <| .pkTb rfl c55 rfl <| .mv rfl <| .gNt rfl rfl rfl c60 <| .pkFb rfl c60 rfl <| .asg rfl <| .nil) rfl (by kernel_rfl) ?_
                cases h
                refine .retG (fun _ _ hb => hb) rfl (.cons (.tmp rfl) .nil) (.refl _) trivial trivial
            · replace h := ite_neg_some c55 h
              refine .regD hmix (.mv rfl <| .cm rfl rfl rfl <| .mv rfl <| .gNt rfl rfl rfl c55 <| .gNt rfl rfl rfl c55 <| .gNt rfl rfl rfl c55 <| .gNt rfl rfl rfl c55 <| .gNt rfl rfl rfl c55 <| .pkFb rfl c55 rfl <| .mv rfl <| .gNt rfl rfl rfl (by decide) <| .pkFb rfl (by decide) rfl <| .asg rfl <| .nil) rfl (by kernel_rfl) ?_
              cases h
              refine .retG (fun _ _ hb => hb) rfl (.cons (.tmp rfl) .nil) (.refl _) trivial trivial
end
end Go.Am
namespace Go.Am
theorem rootq_sz (a : Rat) (k : Nat) (h : k ≤ 64) : sz (rootq a k) ≤ sz a + 1000 := by
  have h1 := sz_le.1 (Nat.le_refl (sz a))
  have h2 : blen (2 ^ (2 * k)) ≤ 129 := blen_pow (by omega)
  have h3 := blen_mul_le h1.1 h2
  have h4 : blen (a.num.natAbs * 2 ^ (2 * k) / a.den) ≤ sz a + 129 := Nat.le_trans (blen_mono (Nat.div_le_self _ _)) h3
  have h5 : blen (isqrt (a.num.natAbs * 2 ^ (2 * k) / a.den)) ≤ sz a + 129 := blen_isqrt (Nat.le_trans h4 (by omega))
  have h6 := sz_pow k
  have h7 : sz (((isqrt (a.num.natAbs * 2 ^ (2 * k) / a.den) : Nat) : Rat)) ≤ sz a + 130 := by
    have := sz_int ((isqrt (a.num.natAbs * 2 ^ (2 * k) / a.den) : Nat) : Int)
    rw [Int.natAbs_natCast] at this
    exact Nat.le_trans this (by omega)
  have h8 := sz_div' (((isqrt (a.num.natAbs * 2 ^ (2 * k) / a.den) : Nat) : Rat)) ((2 : Rat) ^ k)
  unfold rootq
  omega
theorem Nears_true (a1 a2 a3 a4 a5 : Int) (h1 : i64r a1) (h2 : i64r a2) (h3 : 0 ≤ a3 ∧ a3 ≤ 255) (h4 : i64r a4) (h5 : i64r a5) : m_l_ExactNears a1 a2 a3 a4 a5 = some true := by
  obtain ⟨e1, s1⟩ := Both_is a1 a2 a3 h1 h2 h3
  unfold m_l_ExactNears
  rw [e1]
  generalize bothX a1 a2 a3 = x at *
  have q1 : qs' x := Nat.le_trans s1 (by omega)
  obtain ⟨m, hm⟩ : ∃ m, m = (if a4 > 60 then Int.tmod a4 60 else a4) := ⟨_, rfl⟩
  have em : (if (decide (a4 > 60)) = true then some (Int.tmod a4 60) else some a4) = some m := by
    rw [hm]
    by_cases h : a4 > 60
    · rw [if_pos (decide_eq_true h), if_pos h]
    · rw [if_neg (by simpa using h), if_neg h]
  have hmr : i64r m ∧ m ≤ 60 := by
    unfold i64r at h4 ⊢
    rw [hm]
    by_cases h : a4 > 60
    · rw [if_pos h, Int.tmod_eq_emod_of_nonneg (by omega)]
      omega
    · rw [if_neg h]; omega
  have eN : q_near x m = some (if m < 1 then (0, 3) else (nearR x m.toNat, 0)) := must_eq ⟨Nat.le_trans s1 (by omega), hmr.1⟩
  have eR : q_root x a5 = some (if a5 < 0 ∨ 64 < a5 then (0, 3) else if x < 0 then (0, 8) else (rootq x a5.toNat, 0)) := must_eq ⟨q1, h5⟩
  have eS : q_sign x = some (sgn x) := rfl
  have z0 : sgn 0 = 0 := rfl
  have eZ : q_sign 0 = some 0 := rfl
  simp only [Option.bind_some]
  rw [em]
  simp only [Option.bind_some]
  rw [eN]
  simp only [Option.bind_some]
  rw [eR]
  simp only [Option.bind_some]
  have tail : ∀ (v16 : Rat) (v17 : Int), (v16, v17) = (if a5 < 0 ∨ 64 < a5 then ((0 : Rat), (3 : Int)) else if x < 0 then (0, 8) else (rootq x a5.toNat, 0)) →
      (if (decide (a5 < 0)) = true then (if (v17 == 3) = true then (q_sign v16).bind fun v34 => (if (v34 == 0) = true then (m_l_awake).bind fun v37 => some v37 else some false) else some false) else (if (decide (a5 > 64)) = true then (if (v17 == 3) = true then (q_sign v16).bind fun v41 => (if (v41 == 0) = true then (m_l_awake).bind fun v44 => some v44 else some false) else some false) else (q_sign x).bind fun v46 => (if (decide (v46 < 0)) = true then (if (v17 == 8) = true then (q_sign v16).bind fun v50 => (if (v50 == 0) = true then (m_l_awake).bind fun v53 => some v53 else some false) else some false) else (if (v17 == 0) = true then (r_root x a5).bind fun v56 => (m_l_Same v16 v56).bind fun v58 => (if v58 = true then (m_l_awake).bind fun v61 => some v61 else some false) else some false)))) = some true := by
    intro v16 v17 hv
    rw [awake_true]
    by_cases c1 : a5 < 0
    · rw [if_pos (.inl c1)] at hv
      injection hv with hv1 hv2
      subst hv1; subst hv2
      simp [c1, eZ]
    by_cases c2 : 64 < a5
    · rw [if_pos (.inr c2)] at hv
      injection hv with hv1 hv2
      subst hv1; subst hv2
      simp [c1, c2, eZ]
    rw [if_neg (by omega)] at hv
    by_cases c3 : x < 0
    · rw [if_pos c3] at hv
      injection hv with hv1 hv2
      subst hv1; subst hv2
      have : sgn x = -1 := by unfold sgn; rw [if_pos c3]
      simp [c1, c2, eZ, eS, this]
    · rw [if_neg c3] at hv
      injection hv with hv1 hv2
      subst hv1; subst hv2
      have hn : ¬ sgn x < 0 := by unfold sgn; grind
      have hr : r_root x a5 = some (rootq x a5.toNat) := must_eq ⟨q1, c3, by omega, by omega⟩
      have hs := Same_self (a := rootq x a5.toNat) (Nat.le_trans (rootq_sz x a5.toNat (by omega)) (by omega))
      simp [c1, c2, eS, hn, hr, hs]
  by_cases c0 : m < 1
  · rw [if_pos (decide_eq_true c0), if_pos c0]
    simp only [eZ, Option.bind_some, bne_self_eq_false, Bool.false_eq_true, if_false]
    exact tail _ _ rfl
  · rw [if_neg (by simpa using c0), if_neg c0]
    unfold i64r at hmr
    have hr : r_near x m = some (nearR x m.toNat) := must_eq ⟨q1, by omega⟩
    have hs := Same_self (a := nearR x m.toNat) (Nat.le_trans (nearR_sz x m.toNat (by omega)) (by omega))
    simp only [hr, hs, Option.bind_some, bne_self_eq_false, Bool.false_eq_true, if_false, Bool.not_true]
    exact tail _ _ rfl
end Go.Am
