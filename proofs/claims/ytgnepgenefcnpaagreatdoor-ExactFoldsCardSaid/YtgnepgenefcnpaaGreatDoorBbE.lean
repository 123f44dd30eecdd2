/- Part 5 of 7 of what the laws of layer 1 share: contracts of functions of the program, each for every argument of its description; no condition beyond it. -/
import Derived.Test.YtgnepgenefcnpaaGreatDoorBbD
import Derived.Shelf.Strings.SlTrimAscii
import Derived.Shelf.Strings.Trim
import Derived.Shelf.Small.Strs
import Derived.Shelf.Strings.Search1
import Derived.Shelf.Strings.Search2
import Derived.Shelf.Strings.Cut
import Derived.Test.YtgnepgenefcnpaaGreatDoorProg
import Derived.RangeFuncOwn
set_option linter.unusedVariables false
set_option linter.unusedSimpArgs false
namespace Go.Am
open Go.RowKit
set_option maxRecDepth 100000
noncomputable section
def m_r_Q_den (a1 : Bool) (a2 : List Int) (a3 : Bool) (a4 : List Int) : Option (Bool × (List Int)) := (if ((a4.length : Int) == 0) = true then (m_r_ZInt 1).bind fun (v6, v7) => some (v6, v7) else some (a3, a4))
theorem C_r_Q_den {a1 : Bool} {a2 : List Int} {a3 : Bool} {a4 : List Int} {r9 : Bool} {r10 : List Int} (h : m_r_Q_den a1 a2 a3 a4 = some (r9, r10)) : CtrG PP 173 [] [D.agg ([D.bool a1, slcE (Enc.int .i64) a2, D.bool a3, slcE (Enc.int .i64) a4])] [] (D.agg ([D.bool r9, slcE (Enc.int .i64) r10])) := by
  unfold m_r_Q_den at h
  refine .of Go.Proofs.Tryz.func173 rfl (by kernel_rfl) rfl rfl rfl rfl rfl rfl (fun A w0 L b => ?_)
  show Ok PP _ [(0, D.agg ([D.bool a1, slcE (Enc.int .i64) a2, D.bool a3, slcE (Enc.int .i64) a4]))] [] _ _
  refine .reg (.bxA rfl rfl <| .alL ([D.bool false, D.nil]) z_ambleref01_Z ⟨.refl _, .refl _, trivial⟩ rfl <| .nil) rfl ?_
  refine .sq ?_
  refine .reg (.fa rfl f_ambleref01_Q_1 <| .fa rfl f_ambleref01_Z_1 <| .ldE1 (slcE (Enc.int .i64) a4) rfl rfl ly_Lint rfl <| .lnE rfl is_Lint <| .cm rfl rfl rfl <| .nil) rfl ?_
  by_cases c5 : ((a4.length : Int) == 0) = true
  · replace h := ite_pos_some c5 h
    refine .cTb rfl c5 ?_
    obtain ⟨⟨v6, v7⟩, e8, h⟩ := bind_some h
    refine .reg (.callG (C_r_ZInt e8) ⟨rfl, trivial⟩ trivial trivial <| .stE ([D.bool v6, slcE (Enc.int .i64) v7]) rfl rfl rfl ly_ambleref01_Z rfl rfl rfl <| .nil) rfl ?_
    cases h
    refine .retG (fun _ _ hb => hb) rfl (.cons (.agg rfl rfl ly_ambleref01_Z rfl) .nil) (.refl _) trivial trivial
  · replace h := ite_neg_some c5 h
    refine .cFb rfl c5 ?_
    refine .skip (Ok.on ?_)
    refine .reg (.fa rfl f_ambleref01_Q_1 <| .ldE ([D.bool a3, slcE (Enc.int .i64) a4]) rfl rfl ly_ambleref01_Z rfl rfl <| .stE ([D.bool a3, slcE (Enc.int .i64) a4]) rfl rfl rfl ly_ambleref01_Z rfl rfl rfl <| .nil) rfl ?_
    cases h
    refine .retG (fun _ _ hb => hb) rfl (.cons (.agg rfl rfl ly_ambleref01_Z rfl) .nil) (.refl _) trivial trivial
def m_r_QOf (a1 : Bool) (a2 : List Int) (a3 : Bool) (a4 : List Int) : Option ((Bool × (List Int)) × (Bool × (List Int))) := ((if a3 = true then (m_r_ZNeg a1 a2).bind fun (v8, v9) => (m_r_ZNeg a3 a4).bind fun (v11, v12) => some ((v8, v9, v11, v12)) else some ((a1, a2, a3, a4)))).bind fun (v14, v15, v16, v17) => (m_r_ZGcd v14 v15 v16 v17).bind fun (v18, v19) => ((if ((v19.length : Int) == 1) = true then (ix v19 0).bind fun v24 => (if (v24 == 1) = true then some (Ex.ret ((v14, v15), (v16, v17))) else some (Ex.brk ())) else some (Ex.brk ()))).bind fun o21 => (match o21 with | Ex.brk () => (m_r_over v15 v19).bind fun (v27, v28) => (m_r_over v17 v19).bind fun (v30, v31) => (m_r_signed v14 v27).bind fun (v33, v34) => (m_r_signed false v30).bind fun (v36, v37) => some ((v33, v34), (v36, v37)) | Ex.ret ((r39, r40), (r41, r42)) => some ((r39, r40), (r41, r42)))
theorem C_r_QOf {a1 : Bool} {a2 : List Int} {a3 : Bool} {a4 : List Int} {r43 : Bool} {r44 : List Int} {r45 : Bool} {r46 : List Int} (h : m_r_QOf a1 a2 a3 a4 = some ((r43, r44), (r45, r46))) : CtrG PP 161 [] [D.agg ([D.bool a1, slcE (Enc.int .i64) a2]), D.agg ([D.bool a3, slcE (Enc.int .i64) a4])] [] (D.agg ([D.bool r43, slcE (Enc.int .i64) r44, D.bool r45, slcE (Enc.int .i64) r46])) := by
  unfold m_r_QOf at h
  refine .of Go.Proofs.Tryz.func161 rfl (by kernel_rfl) rfl rfl rfl rfl rfl rfl (fun A w0 L b => ?_)
  show Ok PP _ [(0, D.agg ([D.bool a1, slcE (Enc.int .i64) a2])), (1, D.agg ([D.bool a3, slcE (Enc.int .i64) a4]))] [] _ _
  refine .reg (.bxA rfl rfl <| .bxA rfl rfl <| .alL ([D.bool false, D.nil, D.bool false, D.nil]) z_ambleref01_Q ⟨.refl _, .refl _, .refl _, .refl _, trivial⟩ rfl <| .nil) rfl ?_
  obtain ⟨o5, hp6, h⟩ := bind_some h
  refine .cutX (fun i => o5 = i) (fun (i : Bool × (List Int) × Bool × (List Int)) => [(2, D.ref 2 0), (3, D.ref 3 0), (4, D.ref 4 0)]) (fun (i : Bool × (List Int) × Bool × (List Int)) => [(2, Hp.box 35 ([D.bool i.1, slcE (Enc.int .i64) i.2.1])), (3, Hp.box 35 ([D.bool i.2.2.1, slcE (Enc.int .i64) i.2.2.2])), (4, Hp.box 37 ([D.bool false, D.nil, D.bool false, D.nil]))]) ?_ ?_
  · have ho1 := h
    clear h
    have h := hp6
    clear hp6
    refine .reg (.fa rfl f_ambleref01_Z_0 <| .ldE1 (D.bool a3) rfl rfl ly_bool rfl <| .nil) rfl ?_
    by_cases c7 : a3 = true
    · replace h := ite_pos_some c7 h
      refine .cTb rfl c7 ?_
      obtain ⟨⟨v8, v9⟩, e10, h⟩ := bind_some h
      obtain ⟨⟨v11, v12⟩, e13, h⟩ := bind_some h
      refine .regionD hmix (.ldE ([D.bool a1, slcE (Enc.int .i64) a2]) rfl rfl ly_ambleref01_Z rfl rfl <| .callG (C_r_ZNeg e10) ⟨rfl, trivial⟩ trivial trivial <| .ldE ([D.bool a3, slcE (Enc.int .i64) a4]) rfl rfl ly_ambleref01_Z rfl rfl <| .callG (C_r_ZNeg e13) ⟨rfl, trivial⟩ trivial trivial <| .stE ([D.bool v8, slcE (Enc.int .i64) v9]) rfl rfl rfl ly_ambleref01_Z rfl rfl rfl <| .stE ([D.bool v11, slcE (Enc.int .i64) v12]) rfl rfl rfl ly_ambleref01_Z rfl rfl rfl <| .nil) rfl (by kernel_rfl) (fun _ _ hs => ⟨(v8, v9, v11, v12), (Option.some.inj h).symm, hs.sub ⟨⟨_, rfl, .refl _⟩, ⟨_, rfl, .refl _⟩, ⟨_, rfl, .refl _⟩, trivial⟩ ⟨⟨_, rfl, .refl _⟩, ⟨_, rfl, .refl _⟩, ⟨_, rfl, .refl _⟩, trivial⟩ rfl rfl⟩)
    · replace h := ite_neg_some c7 h
      refine .cFb rfl c7 ?_
      refine .skip (fun _ _ hs => ⟨(a1, a2, a3, a4), (Option.some.inj h).symm, hs.sub ⟨⟨_, rfl, .refl _⟩, ⟨_, rfl, .refl _⟩, ⟨_, rfl, .refl _⟩, trivial⟩ ⟨⟨_, rfl, .refl _⟩, ⟨_, rfl, .refl _⟩, ⟨_, rfl, .refl _⟩, trivial⟩ rfl rfl⟩)
  · rintro ⟨v14, v15, v16, v17⟩ rfl
    show Ok PP _ [(2, D.ref 2 0), (3, D.ref 3 0), (4, D.ref 4 0)] [(2, Hp.box 35 ([D.bool v14, slcE (Enc.int .i64) v15])), (3, Hp.box 35 ([D.bool v16, slcE (Enc.int .i64) v17])), (4, Hp.box 37 ([D.bool false, D.nil, D.bool false, D.nil]))] _ _
    obtain ⟨⟨v18, v19⟩, e20, h⟩ := bind_some h
    refine .reg (.ldE ([D.bool v14, slcE (Enc.int .i64) v15]) rfl rfl ly_ambleref01_Z rfl rfl <| .ldE ([D.bool v16, slcE (Enc.int .i64) v17]) rfl rfl ly_ambleref01_Z rfl rfl <| .callG (C_r_ZGcd e20) ⟨rfl, rfl, trivial⟩ trivial trivial <| .alL ([D.bool false, D.nil]) z_ambleref01_Z ⟨.refl _, .refl _, trivial⟩ rfl <| .stE ([D.bool v18, slcE (Enc.int .i64) v19]) rfl rfl rfl ly_ambleref01_Z rfl rfl rfl <| .nil) rfl ?_
    obtain ⟨o21, hp22, h⟩ := bind_some h
    refine .cutX (fun i => o21 = Ex.brk i) (fun (i : Unit) => [(2, D.ref 2 0), (3, D.ref 3 0), (4, D.ref 4 0), (5, D.ref 5 0)]) (fun (i : Unit) => [(2, Hp.box 35 ([D.bool v14, slcE (Enc.int .i64) v15])), (3, Hp.box 35 ([D.bool v16, slcE (Enc.int .i64) v17])), (4, Hp.box 37 ([D.bool false, D.nil, D.bool false, D.nil])), (5, Hp.box 35 ([D.bool v18, slcE (Enc.int .i64) v19]))]) ?_ ?_
    · have ho1 := h
      clear h
      have h := hp22
      clear hp22
      by_cases c23 : ((v19.length : Int) == 1) = true
      · replace h := ite_pos_some c23 h
        obtain ⟨v24, e25, h⟩ := bind_some h
        refine .reg (.fa rfl f_ambleref01_Z_1 <| .ldE1 (slcE (Enc.int .i64) v19) rfl rfl ly_Lint rfl <| .lnE rfl is_Lint <| .cm rfl rfl rfl <| .mv rfl <| .gYt rfl rfl rfl c23 <| .fa rfl f_ambleref01_Z_1 <| .gYt rfl rfl rfl c23 <| .ldE1 (slcE (Enc.int .i64) v19) rfl rfl ly_Lint rfl <| .gYt rfl rfl rfl c23 <| .ixE rfl rfl se_Lint (ix_some e25).1 (ix_some e25).2 <| .gYt rfl rfl rfl c23 <| .lp1 rfl ly_int <| .gYt rfl rfl rfl c23 <| .cm rfl rfl rfl <| .pkTb rfl c23 rfl <| .nil) rfl ?_
        by_cases c26 : (v24 == 1) = true
        · replace h := ite_pos_some c26 h
          refine .cTb rfl c26 ?_
          refine .reg (.ldE ([D.bool v14, slcE (Enc.int .i64) v15]) rfl rfl ly_ambleref01_Z rfl rfl <| .ldE ([D.bool v16, slcE (Enc.int .i64) v17]) rfl rfl ly_ambleref01_Z rfl rfl <| .bdQ ([D.bool v14, slcE (Enc.int .i64) v15, D.bool v16, slcE (Enc.int .i64) v17]) [(0, _, D.agg ([D.bool v14, slcE (Enc.int .i64) v15]), [D.bool v14, slcE (Enc.int .i64) v15]), (2, _, D.agg ([D.bool v16, slcE (Enc.int .i64) v17]), [D.bool v16, slcE (Enc.int .i64) v17])] z_ambleref01_Q pl_ambleref01_Q ⟨rfl, rfl, .agg _, rfl, rfl, rfl, .agg _, rfl, trivial⟩ ⟨rfl, rfl, trivial⟩ ⟨.refl _, .refl _, .refl _, .refl _, trivial⟩ <| .stE ([D.bool v14, slcE (Enc.int .i64) v15, D.bool v16, slcE (Enc.int .i64) v17]) rfl rfl rfl ly_ambleref01_Q rfl rfl rfl <| .nil) rfl ?_
          cases h
          have h := ho1
          clear ho1
          cases h
          refine .retG (fun _ _ hb => hb) rfl (.cons (.agg rfl rfl ly_ambleref01_Q rfl) .nil) (.refl _) trivial trivial
        · replace h := ite_neg_some c26 h
          refine .cFb rfl c26 ?_
          refine .skip (fun _ _ hs => ⟨(), (Option.some.inj h).symm, hs.sub ⟨⟨_, rfl, .refl _⟩, ⟨_, rfl, .refl _⟩, ⟨_, rfl, .refl _⟩, ⟨_, rfl, .refl _⟩, trivial⟩ ⟨⟨_, rfl, .refl _⟩, ⟨_, rfl, .refl _⟩, ⟨_, rfl, .refl _⟩, ⟨_, rfl, .refl _⟩, trivial⟩ rfl rfl⟩)
      · replace h := ite_neg_some c23 h
        refine .reg (.fa rfl f_ambleref01_Z_1 <| .ldE1 (slcE (Enc.int .i64) v19) rfl rfl ly_Lint rfl <| .lnE rfl is_Lint <| .cm rfl rfl rfl <| .mv rfl <| .gNt rfl rfl rfl c23 <| .gNt rfl rfl rfl c23 <| .gNt rfl rfl rfl c23 <| .gNt rfl rfl rfl c23 <| .gNt rfl rfl rfl c23 <| .pkFb rfl c23 rfl <| .nil) rfl ?_
        refine .cFb rfl (by decide) ?_
        refine .skip (fun _ _ hs => ⟨(), (Option.some.inj h).symm, hs.sub ⟨⟨_, rfl, .refl _⟩, ⟨_, rfl, .refl _⟩, ⟨_, rfl, .refl _⟩, ⟨_, rfl, .refl _⟩, trivial⟩ ⟨⟨_, rfl, .refl _⟩, ⟨_, rfl, .refl _⟩, ⟨_, rfl, .refl _⟩, ⟨_, rfl, .refl _⟩, trivial⟩ rfl rfl⟩)
    · rintro ⟨⟩ rfl
      show Ok PP _ [(2, D.ref 2 0), (3, D.ref 3 0), (4, D.ref 4 0), (5, D.ref 5 0)] [(2, Hp.box 35 ([D.bool v14, slcE (Enc.int .i64) v15])), (3, Hp.box 35 ([D.bool v16, slcE (Enc.int .i64) v17])), (4, Hp.box 37 ([D.bool false, D.nil, D.bool false, D.nil])), (5, Hp.box 35 ([D.bool v18, slcE (Enc.int .i64) v19]))] _ _
      obtain ⟨⟨v27, v28⟩, e29, h⟩ := bind_some h
      refine .reg (.fa rfl f_ambleref01_Z_1 <| .ldE1 (slcE (Enc.int .i64) v15) rfl rfl ly_Lint rfl <| .fa rfl f_ambleref01_Z_1 <| .ldE1 (slcE (Enc.int .i64) v19) rfl rfl ly_Lint rfl <| .callG (C_r_over e29) ⟨rfl, rfl, trivial⟩ trivial trivial <| .mv rfl <| .ext rfl rfl <| .ext rfl rfl <| .asg rfl <| .asg rfl <| .nil) rfl ?_
      obtain ⟨⟨v30, v31⟩, e32, h⟩ := bind_some h
      refine .reg (.fa rfl f_ambleref01_Z_1 <| .ldE1 (slcE (Enc.int .i64) v17) rfl rfl ly_Lint rfl <| .fa rfl f_ambleref01_Z_1 <| .ldE1 (slcE (Enc.int .i64) v19) rfl rfl ly_Lint rfl <| .callG (C_r_over e32) ⟨rfl, rfl, trivial⟩ trivial trivial <| .mv rfl <| .ext rfl rfl <| .ext rfl rfl <| .asg rfl <| .asg rfl <| .nil) rfl ?_
      obtain ⟨⟨v33, v34⟩, e35, h⟩ := bind_some h
      obtain ⟨⟨v36, v37⟩, e38, h⟩ := bind_some h
      refine .reg (.fa rfl f_ambleref01_Z_0 <| .ldE1 (D.bool v14) rfl rfl ly_bool rfl <| .mv rfl <| .callG (C_r_signed e35) ⟨rfl, rfl, trivial⟩ trivial trivial <| .mv rfl <| .callG (C_r_signed e38) ⟨rfl, rfl, trivial⟩ trivial trivial <| .bdQ ([D.bool v33, slcE (Enc.int .i64) v34, D.bool v36, slcE (Enc.int .i64) v37]) [(0, _, D.agg ([D.bool v33, slcE (Enc.int .i64) v34]), [D.bool v33, slcE (Enc.int .i64) v34]), (2, _, D.agg ([D.bool v36, slcE (Enc.int .i64) v37]), [D.bool v36, slcE (Enc.int .i64) v37])] z_ambleref01_Q pl_ambleref01_Q ⟨rfl, rfl, .agg _, rfl, rfl, rfl, .agg _, rfl, trivial⟩ ⟨rfl, rfl, trivial⟩ ⟨.refl _, .refl _, .refl _, .refl _, trivial⟩ <| .stE ([D.bool v33, slcE (Enc.int .i64) v34, D.bool v36, slcE (Enc.int .i64) v37]) rfl rfl rfl ly_ambleref01_Q rfl rfl rfl <| .nil) rfl ?_
      cases h
      refine .retG (fun _ _ hb => hb) rfl (.cons (.agg rfl rfl ly_ambleref01_Q rfl) .nil) (.refl _) trivial trivial
def m_r_Of (a1 : Int) (a2 : Int) : Option ((Bool × (List Int)) × (Bool × (List Int))) := (m_r_ZInt a1).bind fun (v3, v4) => (m_r_ZInt a2).bind fun (v6, v7) => (m_r_QOf v3 v4 v6 v7).bind fun ((v9, v10), (v11, v12)) => some ((v9, v10), (v11, v12))
theorem C_r_Of {a1 : Int} {a2 : Int} {r14 : Bool} {r15 : List Int} {r16 : Bool} {r17 : List Int} (h : m_r_Of a1 a2 = some ((r14, r15), (r16, r17))) : CtrG PP 37 [] [D.int .i64 a1, D.int .i64 a2] [] (D.agg ([D.bool r14, slcE (Enc.int .i64) r15, D.bool r16, slcE (Enc.int .i64) r17])) := by
  unfold m_r_Of at h
  refine .of Go.Proofs.Tryz.func37 rfl (by kernel_rfl) rfl rfl rfl rfl rfl rfl (fun A w0 L b => ?_)
  show Ok PP _ [(0, D.int .i64 a1), (1, D.int .i64 a2)] [] _ _
  refine .reg (.alL ([D.bool false, D.nil, D.bool false, D.nil]) z_ambleref01_Q ⟨.refl _, .refl _, .refl _, .refl _, trivial⟩ rfl <| .nil) rfl ?_
  obtain ⟨⟨v3, v4⟩, e5, h⟩ := bind_some h
  obtain ⟨⟨v6, v7⟩, e8, h⟩ := bind_some h
  obtain ⟨⟨⟨v9, v10⟩, ⟨v11, v12⟩⟩, e13, h⟩ := bind_some h
  refine .reg (.mv rfl <| .callG (C_r_ZInt e5) ⟨rfl, trivial⟩ trivial trivial <| .mv rfl <| .callG (C_r_ZInt e8) ⟨rfl, trivial⟩ trivial trivial <| .callG (C_r_QOf e13) ⟨rfl, rfl, trivial⟩ trivial trivial <| .stE ([D.bool v9, slcE (Enc.int .i64) v10, D.bool v11, slcE (Enc.int .i64) v12]) rfl rfl rfl ly_ambleref01_Q rfl rfl rfl <| .nil) rfl ?_
  cases h
  refine .retG (fun _ _ hb => hb) rfl (.cons (.agg rfl rfl ly_ambleref01_Q rfl) .nil) (.refl _) trivial trivial
def m_r_Add (a1 : Bool) (a2 : List Int) (a3 : Bool) (a4 : List Int) (a5 : Bool) (a6 : List Int) (a7 : Bool) (a8 : List Int) : Option ((Bool × (List Int)) × (Bool × (List Int))) := (m_r_Q_den a5 a6 a7 a8).bind fun (v9, v10) => (m_r_ZMul a1 a2 v9 v10).bind fun (v12, v13) => (m_r_Q_den a1 a2 a3 a4).bind fun (v15, v16) => (m_r_ZMul a5 a6 v15 v16).bind fun (v18, v19) => (m_r_ZAdd v12 v13 v18 v19).bind fun (v21, v22) => (m_r_Q_den a1 a2 a3 a4).bind fun (v24, v25) => (m_r_Q_den a5 a6 a7 a8).bind fun (v27, v28) => (m_r_ZMul v24 v25 v27 v28).bind fun (v30, v31) => (m_r_QOf v21 v22 v30 v31).bind fun ((v33, v34), (v35, v36)) => some ((v33, v34), (v35, v36))
theorem C_r_Add {a1 : Bool} {a2 : List Int} {a3 : Bool} {a4 : List Int} {a5 : Bool} {a6 : List Int} {a7 : Bool} {a8 : List Int} {r38 : Bool} {r39 : List Int} {r40 : Bool} {r41 : List Int} (h : m_r_Add a1 a2 a3 a4 a5 a6 a7 a8 = some ((r38, r39), (r40, r41))) : CtrG PP 43 [] [D.agg ([D.bool a1, slcE (Enc.int .i64) a2, D.bool a3, slcE (Enc.int .i64) a4]), D.agg ([D.bool a5, slcE (Enc.int .i64) a6, D.bool a7, slcE (Enc.int .i64) a8])] [] (D.agg ([D.bool r38, slcE (Enc.int .i64) r39, D.bool r40, slcE (Enc.int .i64) r41])) := by
  unfold m_r_Add at h
  refine .of Go.Proofs.Tryz.func43 rfl (by kernel_rfl) rfl rfl rfl rfl rfl rfl (fun A w0 L b => ?_)
  show Ok PP _ [(0, D.agg ([D.bool a1, slcE (Enc.int .i64) a2, D.bool a3, slcE (Enc.int .i64) a4])), (1, D.agg ([D.bool a5, slcE (Enc.int .i64) a6, D.bool a7, slcE (Enc.int .i64) a8]))] [] _ _
  refine .reg (.bxA rfl rfl <| .bxA rfl rfl <| .alL ([D.bool false, D.nil, D.bool false, D.nil]) z_ambleref01_Q ⟨.refl _, .refl _, .refl _, .refl _, trivial⟩ rfl <| .nil) rfl ?_
  obtain ⟨⟨v9, v10⟩, e11, h⟩ := bind_some h
  obtain ⟨⟨v12, v13⟩, e14, h⟩ := bind_some h
  obtain ⟨⟨v15, v16⟩, e17, h⟩ := bind_some h
  obtain ⟨⟨v18, v19⟩, e20, h⟩ := bind_some h
  obtain ⟨⟨v21, v22⟩, e23, h⟩ := bind_some h
  obtain ⟨⟨v24, v25⟩, e26, h⟩ := bind_some h
  obtain ⟨⟨v27, v28⟩, e29, h⟩ := bind_some h
  obtain ⟨⟨v30, v31⟩, e32, h⟩ := bind_some h
  obtain ⟨⟨⟨v33, v34⟩, ⟨v35, v36⟩⟩, e37, h⟩ := bind_some h
  refine .regD hmix (.fa rfl f_ambleref01_Q_0 <| .ldE ([D.bool a1, slcE (Enc.int .i64) a2]) rfl rfl ly_ambleref01_Z rfl rfl <| .ldE ([D.bool a5, slcE (Enc.int .i64) a6, D.bool a7, slcE (Enc.int .i64) a8]) rfl rfl ly_ambleref01_Q rfl rfl <| .callG (C_r_Q_den e11) ⟨rfl, trivial⟩ trivial trivial <| .callG (C_r_ZMul e14) ⟨rfl, rfl, trivial⟩ trivial trivial <| .fa rfl f_ambleref01_Q_0 <| .ldE ([D.bool a5, slcE (Enc.int .i64) a6]) rfl rfl ly_ambleref01_Z rfl rfl <| .ldE ([D.bool a1, slcE (Enc.int .i64) a2, D.bool a3, slcE (Enc.int .i64) a4]) rfl rfl ly_ambleref01_Q rfl rfl <| .callG (C_r_Q_den e17) ⟨rfl, trivial⟩ trivial trivial <| .callG (C_r_ZMul e20) ⟨rfl, rfl, trivial⟩ trivial trivial <| .callG (C_r_ZAdd e23) ⟨rfl, rfl, trivial⟩ trivial trivial <| .ldE ([D.bool a1, slcE (Enc.int .i64) a2, D.bool a3, slcE (Enc.int .i64) a4]) rfl rfl ly_ambleref01_Q rfl rfl <| .callG (C_r_Q_den e26) ⟨rfl, trivial⟩ trivial trivial <| .ldE ([D.bool a5, slcE (Enc.int .i64) a6, D.bool a7, slcE (Enc.int .i64) a8]) rfl rfl ly_ambleref01_Q rfl rfl <| .callG (C_r_Q_den e29) ⟨rfl, trivial⟩ trivial trivial <| .callG (C_r_ZMul e32) ⟨rfl, rfl, trivial⟩ trivial trivial <| .callG (C_r_QOf e37) ⟨rfl, rfl, trivial⟩ trivial trivial <| .stE ([D.bool v33, slcE (Enc.int .i64) v34, D.bool v35, slcE (Enc.int .i64) v36]) rfl rfl rfl ly_ambleref01_Q rfl rfl rfl <| .nil) rfl (by kernel_rfl) ?_
  cases h
  refine .retG (fun _ _ hb => hb) rfl (.cons (.agg rfl rfl ly_ambleref01_Q rfl) .nil) (.refl _) trivial trivial
def m_r_Mul (a1 : Bool) (a2 : List Int) (a3 : Bool) (a4 : List Int) (a5 : Bool) (a6 : List Int) (a7 : Bool) (a8 : List Int) : Option ((Bool × (List Int)) × (Bool × (List Int))) := (m_r_ZMul a1 a2 a5 a6).bind fun (v9, v10) => (m_r_Q_den a1 a2 a3 a4).bind fun (v12, v13) => (m_r_Q_den a5 a6 a7 a8).bind fun (v15, v16) => (m_r_ZMul v12 v13 v15 v16).bind fun (v18, v19) => (m_r_QOf v9 v10 v18 v19).bind fun ((v21, v22), (v23, v24)) => some ((v21, v22), (v23, v24))
theorem C_r_Mul {a1 : Bool} {a2 : List Int} {a3 : Bool} {a4 : List Int} {a5 : Bool} {a6 : List Int} {a7 : Bool} {a8 : List Int} {r26 : Bool} {r27 : List Int} {r28 : Bool} {r29 : List Int} (h : m_r_Mul a1 a2 a3 a4 a5 a6 a7 a8 = some ((r26, r27), (r28, r29))) : CtrG PP 47 [] [D.agg ([D.bool a1, slcE (Enc.int .i64) a2, D.bool a3, slcE (Enc.int .i64) a4]), D.agg ([D.bool a5, slcE (Enc.int .i64) a6, D.bool a7, slcE (Enc.int .i64) a8])] [] (D.agg ([D.bool r26, slcE (Enc.int .i64) r27, D.bool r28, slcE (Enc.int .i64) r29])) := by
  unfold m_r_Mul at h
  refine .of Go.Proofs.Tryz.func47 rfl (by kernel_rfl) rfl rfl rfl rfl rfl rfl (fun A w0 L b => ?_)
  show Ok PP _ [(0, D.agg ([D.bool a1, slcE (Enc.int .i64) a2, D.bool a3, slcE (Enc.int .i64) a4])), (1, D.agg ([D.bool a5, slcE (Enc.int .i64) a6, D.bool a7, slcE (Enc.int .i64) a8]))] [] _ _
  refine .reg (.bxA rfl rfl <| .bxA rfl rfl <| .alL ([D.bool false, D.nil, D.bool false, D.nil]) z_ambleref01_Q ⟨.refl _, .refl _, .refl _, .refl _, trivial⟩ rfl <| .nil) rfl ?_
  obtain ⟨⟨v9, v10⟩, e11, h⟩ := bind_some h
  obtain ⟨⟨v12, v13⟩, e14, h⟩ := bind_some h
  obtain ⟨⟨v15, v16⟩, e17, h⟩ := bind_some h
  obtain ⟨⟨v18, v19⟩, e20, h⟩ := bind_some h
  obtain ⟨⟨⟨v21, v22⟩, ⟨v23, v24⟩⟩, e25, h⟩ := bind_some h
  refine .regD hmix (.fa rfl f_ambleref01_Q_0 <| .ldE ([D.bool a1, slcE (Enc.int .i64) a2]) rfl rfl ly_ambleref01_Z rfl rfl <| .fa rfl f_ambleref01_Q_0 <| .ldE ([D.bool a5, slcE (Enc.int .i64) a6]) rfl rfl ly_ambleref01_Z rfl rfl <| .callG (C_r_ZMul e11) ⟨rfl, rfl, trivial⟩ trivial trivial <| .ldE ([D.bool a1, slcE (Enc.int .i64) a2, D.bool a3, slcE (Enc.int .i64) a4]) rfl rfl ly_ambleref01_Q rfl rfl <| .callG (C_r_Q_den e14) ⟨rfl, trivial⟩ trivial trivial <| .ldE ([D.bool a5, slcE (Enc.int .i64) a6, D.bool a7, slcE (Enc.int .i64) a8]) rfl rfl ly_ambleref01_Q rfl rfl <| .callG (C_r_Q_den e17) ⟨rfl, trivial⟩ trivial trivial <| .callG (C_r_ZMul e20) ⟨rfl, rfl, trivial⟩ trivial trivial <| .callG (C_r_QOf e25) ⟨rfl, rfl, trivial⟩ trivial trivial <| .stE ([D.bool v21, slcE (Enc.int .i64) v22, D.bool v23, slcE (Enc.int .i64) v24]) rfl rfl rfl ly_ambleref01_Q rfl rfl rfl <| .nil) rfl (by kernel_rfl) ?_
  cases h
  refine .retG (fun _ _ hb => hb) rfl (.cons (.agg rfl rfl ly_ambleref01_Q rfl) .nil) (.refl _) trivial trivial
def m_r_Cmp (a1 : Bool) (a2 : List Int) (a3 : Bool) (a4 : List Int) (a5 : Bool) (a6 : List Int) (a7 : Bool) (a8 : List Int) : Option Int := (m_r_Q_den a5 a6 a7 a8).bind fun (v9, v10) => (m_r_ZMul a1 a2 v9 v10).bind fun (v12, v13) => (m_r_Q_den a1 a2 a3 a4).bind fun (v15, v16) => (m_r_ZMul a5 a6 v15 v16).bind fun (v18, v19) => (m_r_ZCmp v12 v13 v18 v19).bind fun v21 => some v21
theorem C_r_Cmp {a1 : Bool} {a2 : List Int} {a3 : Bool} {a4 : List Int} {a5 : Bool} {a6 : List Int} {a7 : Bool} {a8 : List Int} {r23 : Int} (h : m_r_Cmp a1 a2 a3 a4 a5 a6 a7 a8 = some r23) : CtrG PP 52 [] [D.agg ([D.bool a1, slcE (Enc.int .i64) a2, D.bool a3, slcE (Enc.int .i64) a4]), D.agg ([D.bool a5, slcE (Enc.int .i64) a6, D.bool a7, slcE (Enc.int .i64) a8])] [] (D.int .i64 r23) := by
  unfold m_r_Cmp at h
  refine .of Go.Proofs.Tryz.func52 rfl (by kernel_rfl) rfl rfl rfl rfl rfl rfl (fun A w0 L b => ?_)
  show Ok PP _ [(0, D.agg ([D.bool a1, slcE (Enc.int .i64) a2, D.bool a3, slcE (Enc.int .i64) a4])), (1, D.agg ([D.bool a5, slcE (Enc.int .i64) a6, D.bool a7, slcE (Enc.int .i64) a8]))] [] _ _
  refine .reg (.bxA rfl rfl <| .bxA rfl rfl <| .asg rfl <| .nil) rfl ?_
  obtain ⟨⟨v9, v10⟩, e11, h⟩ := bind_some h
  obtain ⟨⟨v12, v13⟩, e14, h⟩ := bind_some h
  obtain ⟨⟨v15, v16⟩, e17, h⟩ := bind_some h
  obtain ⟨⟨v18, v19⟩, e20, h⟩ := bind_some h
  obtain ⟨v21, e22, h⟩ := bind_some h
  refine .regD hmix (.fa rfl f_ambleref01_Q_0 <| .ldE ([D.bool a1, slcE (Enc.int .i64) a2]) rfl rfl ly_ambleref01_Z rfl rfl <| .ldE ([D.bool a5, slcE (Enc.int .i64) a6, D.bool a7, slcE (Enc.int .i64) a8]) rfl rfl ly_ambleref01_Q rfl rfl <| .callG (C_r_Q_den e11) ⟨rfl, trivial⟩ trivial trivial <| .callG (C_r_ZMul e14) ⟨rfl, rfl, trivial⟩ trivial trivial <| .fa rfl f_ambleref01_Q_0 <| .ldE ([D.bool a5, slcE (Enc.int .i64) a6]) rfl rfl ly_ambleref01_Z rfl rfl <| .ldE ([D.bool a1, slcE (Enc.int .i64) a2, D.bool a3, slcE (Enc.int .i64) a4]) rfl rfl ly_ambleref01_Q rfl rfl <| .callG (C_r_Q_den e17) ⟨rfl, trivial⟩ trivial trivial <| .callG (C_r_ZMul e20) ⟨rfl, rfl, trivial⟩ trivial trivial <| .callG (C_r_ZCmp e22) ⟨rfl, rfl, trivial⟩ trivial trivial <| .asg rfl <| .nil) rfl (by kernel_rfl) ?_
  cases h
  refine .retG (fun _ _ hb => hb) rfl (.cons (.tmp rfl) .nil) (.refl _) trivial trivial
def m_r_Text (a1 : Bool) (a2 : List Int) (a3 : Bool) (a4 : List Int) : Option (List UInt8) := (m_r_ZText a1 a2).bind fun v5 => (m_r_Q_den a1 a2 a3 a4).bind fun (v7, v8) => (m_r_ZText v7 v8).bind fun v10 => (if (v10 == ([49] : List UInt8)) = true then some v5 else must (v5.length + ([47] : List UInt8).length ≤ 9223372036854775807) (must ((v5 ++ ([47] : List UInt8)).length + v10.length ≤ 9223372036854775807) (some ((v5 ++ ([47] : List UInt8)) ++ v10))))
theorem C_r_Text {a1 : Bool} {a2 : List Int} {a3 : Bool} {a4 : List Int} {r15 : List UInt8} (h : m_r_Text a1 a2 a3 a4 = some r15) : CtrG PP 162 [] [D.agg ([D.bool a1, slcE (Enc.int .i64) a2, D.bool a3, slcE (Enc.int .i64) a4])] [] (strD r15) := by
  unfold m_r_Text at h
  refine .of Go.Proofs.Tryz.func162 rfl (by kernel_rfl) rfl rfl rfl rfl rfl rfl (fun A w0 L b => ?_)
  show Ok PP _ [(0, D.agg ([D.bool a1, slcE (Enc.int .i64) a2, D.bool a3, slcE (Enc.int .i64) a4]))] [] _ _
  refine .reg (.bxA rfl rfl <| .asg rfl <| .nil) rfl ?_
  obtain ⟨v5, e6, h⟩ := bind_some h
  refine .reg (.fa rfl f_ambleref01_Q_0 <| .ldE ([D.bool a1, slcE (Enc.int .i64) a2]) rfl rfl ly_ambleref01_Z rfl rfl <| .callG (C_r_ZText e6) ⟨rfl, trivial⟩ trivial trivial <| .asg rfl <| .nil) rfl ?_
  obtain ⟨⟨v7, v8⟩, e9, h⟩ := bind_some h
  obtain ⟨v10, e11, h⟩ := bind_some h
  refine .reg (.ldE ([D.bool a1, slcE (Enc.int .i64) a2, D.bool a3, slcE (Enc.int .i64) a4]) rfl rfl ly_ambleref01_Q rfl rfl <| .callG (C_r_Q_den e9) ⟨rfl, trivial⟩ trivial trivial <| .callG (C_r_ZText e11) ⟨rfl, trivial⟩ trivial trivial <| .asg rfl <| .nil) rfl ?_
  refine .sq ?_
  refine .reg (.mv rfl <| .teq rfl rfl <| .nil) rfl ?_
  by_cases c12 : (v10 == ([49] : List UInt8)) = true
  · replace h := ite_pos_some c12 h
    refine .cTb rfl c12 ?_
    refine .reg (.mv rfl <| .asg rfl <| .nil) rfl ?_
    cases h
    refine .retG (fun _ _ hb => hb) rfl (.cons (.tmp rfl) .nil) (.refl _) trivial trivial
  · replace h := ite_neg_some c12 h
    refine .cFb rfl c12 ?_
    refine .skip (Ok.on ?_)
    obtain ⟨k13, h⟩ := must_some h
    obtain ⟨k14, h⟩ := must_some h
    refine .reg (.mv rfl <| .tcat rfl rfl k13 <| .mv rfl <| .tcat rfl rfl k14 <| .asg rfl <| .nil) rfl ?_
    cases h
    refine .retG (fun _ _ hb => hb) rfl (.cons (.tmp rfl) .nil) (.refl _) trivial trivial
def m_r_digits_l1 (a1 : List UInt8) (v4 : Int) : Option (St Int (Ex Unit Bool)) := (if (decide (v4 < (a1.length : Int))) = true then (ix a1 v4).bind fun v10 => (if (decide ((v10.toNat : Int) < 48)) = true then some (St.done (Ex.ret false)) else (ix a1 v4).bind fun v13 => (if (decide ((v13.toNat : Int) > 57)) = true then some (St.done (Ex.ret false)) else some (St.next (IntKind.i64.wrap (v4 + 1))))) else some (St.done (Ex.brk ())))
def m_r_digits (a1 : List UInt8) : Option Bool := ((Loop (fun (s : Int) => m_r_digits_l1 a1 s) 0).bind fun o5 => (match o5 with | Ex.brk () => some (Ex.brk ()) | Ex.ret r16 => some (Ex.ret r16))).bind fun o2 => (match o2 with | Ex.brk () => some (!(a1 == ([] : List UInt8))) | Ex.ret r17 => some r17)
theorem C_r_digits {a1 : List UInt8} {r18 : Bool} (h : m_r_digits a1 = some r18) : CtrG PP 155 [] [strD a1] [] (D.bool r18) := by
  unfold m_r_digits at h
  refine .of Go.Proofs.Tryz.func155 rfl (by kernel_rfl) rfl rfl rfl rfl rfl rfl (fun A w0 L b => ?_)
  show Ok PP _ [(0, strD a1)] [] _ _
  refine .reg (.asg rfl <| .nil) rfl ?_
  obtain ⟨o2, hp3, h⟩ := bind_some h
  refine .cutX (fun i => o2 = Ex.brk i) (fun (i : Unit) => [(0, strD a1)]) (fun (i : Unit) => []) ?_ ?_
  · have ho1 := h
    clear h
    have h := hp3
    clear hp3
    refine .reg (.asg rfl <| .nil) rfl ?_
    obtain ⟨o5, hl6, h⟩ := bind_some h
    have ho2 := h
    clear h
    refine .block (.loopL (fun (s : Int) => [(0, strD a1), (3, D.int .i64 s)]) (fun (s : Int) => []) hl6 ⟨⟨_, rfl, .refl _⟩, ⟨_, rfl, .refl _⟩, trivial⟩ trivial rfl rfl ?_)
    rintro v4 st7 hb8
    have h : m_r_digits_l1 a1 v4 = some st7 := hb8
    clear hb8
    unfold m_r_digits_l1 at h
    show Ok PP _ [(0, strD a1), (3, D.int .i64 v4)] [] _ _
    refine .sq ?_
    refine .reg (.mv rfl <| .mv rfl <| .tlen rfl is_string <| .cm rfl rfl rfl <| .nil) rfl ?_
    by_cases c9 : (decide (v4 < (a1.length : Int))) = true
    · replace h := ite_pos_some c9 h
      refine .cTb rfl c9 ?_
      refine .skip (Ok.on ?_)
      refine .sq ?_
      refine .block ?_
      obtain ⟨v10, e11, h⟩ := bind_some h
      by_cases c12 : (decide ((v10.toNat : Int) < 48)) = true
      · replace h := ite_pos_some c12 h
        refine .reg (.mv rfl <| .mv rfl <| .tix rfl rfl is_string (ix_some e11).1 (ix_some e11).2 <| .cm rfl rfl rfl <| .mv rfl <| .gNf rfl rfl rfl c12 <| .gNf rfl rfl rfl c12 <| .gNf rfl rfl rfl c12 <| .gNf rfl rfl rfl c12 <| .pkTb rfl c12 rfl <| .nil) rfl ?_
        refine .cTb rfl rfl ?_
        refine .reg (.asg rfl <| .nil) rfl ?_
        refine .retG (Hi := []) (Ho := []) (b := b) (fn := Go.Proofs.Tryz.f155) (d := D.bool false) (fun _ _ hb => by exact ⟨_, (Option.some.inj h).symm, fun e => by subst e; have h := ho2; cases h; have h := ho1; cases h; exact hb⟩) rfl (.cons (.tmp rfl) .nil) (.refl _) trivial trivial
      · replace h := ite_neg_some c12 h
        obtain ⟨v13, e14, h⟩ := bind_some h
        refine .reg (.mv rfl <| .mv rfl <| .tix rfl rfl is_string (ix_some e11).1 (ix_some e11).2 <| .cm rfl rfl rfl <| .mv rfl <| .gYf rfl rfl rfl c12 <| .mv rfl <| .gYf rfl rfl rfl c12 <| .mv rfl <| .gYf rfl rfl rfl c12 <| .tix rfl rfl is_string (ix_some e14).1 (ix_some e14).2 <| .gYf rfl rfl rfl c12 <| .cm rfl rfl rfl <| .pkFb rfl c12 rfl <| .nil) rfl ?_
        by_cases c15 : (decide ((v13.toNat : Int) > 57)) = true
        · replace h := ite_pos_some c15 h
          refine .cTb rfl c15 ?_
          refine .reg (.asg rfl <| .nil) rfl ?_
          refine .retG (Hi := []) (Ho := []) (b := b) (fn := Go.Proofs.Tryz.f155) (d := D.bool false) (fun _ _ hb => by exact ⟨_, (Option.some.inj h).symm, fun e => by subst e; have h := ho2; cases h; have h := ho1; cases h; exact hb⟩) rfl (.cons (.tmp rfl) .nil) (.refl _) trivial trivial
        · replace h := ite_neg_some c15 h
          refine .cFb rfl c15 ?_
          refine .skip (Ok.on ?_)
          refine .region (.mv rfl <| .ar rfl rfl rfl <| .asg rfl <| .nil) rfl (fun _ _ hs => ⟨(IntKind.i64.wrap (v4 + 1)), (Option.some.inj h).symm, hs.sub ⟨⟨_, rfl, .refl _⟩, ⟨_, rfl, .refl _⟩, trivial⟩ trivial rfl rfl⟩)
    · replace h := ite_neg_some c9 h
      refine .cFb rfl c9 ?_
      refine .exit (fun a w hs => ⟨_, (Option.some.inj h).symm, fun e => by subst e; have h := ho2; exact blk_exit (⟨(), (Option.some.inj h).symm, hs.sub ⟨⟨_, rfl, .refl _⟩, trivial⟩ trivial rfl rfl⟩)⟩)
  · rintro ⟨⟩ rfl
    show Ok PP _ [(0, strD a1)] [] _ _
    refine .reg (.mv rfl <| .tne rfl rfl <| .asg rfl <| .nil) rfl ?_
    cases h
    refine .retG (fun _ _ hb => hb) rfl (.cons (.tmp rfl) .nil) (.refl _) trivial trivial
def m_r_isInt (a1 : List UInt8) : Option Bool := ((if (a1 == ([] : List UInt8)) = true then some (Ex.ret false) else (if (decide ((a1.length : Int) > 1)) = true then (ix a1 0).bind fun v6 => (if ((v6.toNat : Int) == 48) = true then some (Ex.ret false) else some (Ex.brk ())) else some (Ex.brk ())))).bind fun o2 => (match o2 with | Ex.brk () => (m_r_digits a1).bind fun v9 => some v9 | Ex.ret r11 => some r11)
theorem C_r_isInt {a1 : List UInt8} {r12 : Bool} (h : m_r_isInt a1 = some r12) : CtrG PP 154 [] [strD a1] [] (D.bool r12) := by
  unfold m_r_isInt at h
  refine .of Go.Proofs.Tryz.func154 rfl (by kernel_rfl) rfl rfl rfl rfl rfl rfl (fun A w0 L b => ?_)
  show Ok PP _ [(0, strD a1)] [] _ _
  refine .reg (.asg rfl <| .nil) rfl ?_
  obtain ⟨o2, hp3, h⟩ := bind_some h
  refine .cutX (fun i => o2 = Ex.brk i) (fun (i : Unit) => [(0, strD a1)]) (fun (i : Unit) => []) ?_ ?_
  · have ho1 := h
    clear h
    have h := hp3
    clear hp3
    by_cases c4 : (a1 == ([] : List UInt8)) = true
    · replace h := ite_pos_some c4 h
      refine .reg (.mv rfl <| .teq rfl rfl <| .mv rfl <| .gNf rfl rfl rfl c4 <| .gNf rfl rfl rfl c4 <| .gNf rfl rfl rfl c4 <| .gNf rfl rfl rfl c4 <| .gU rfl rfl <| .gU rfl rfl <| .gU rfl rfl <| .gNf rfl rfl rfl c4 <| .pkTb rfl c4 rfl <| .nil) rfl ?_
      refine .cTb rfl rfl ?_
      refine .reg (.asg rfl <| .nil) rfl ?_
      cases h
      have h := ho1
      clear ho1
      cases h
      refine .retG (fun _ _ hb => hb) rfl (.cons (.tmp rfl) .nil) (.refl _) trivial trivial
    · replace h := ite_neg_some c4 h
      by_cases c5 : (decide ((a1.length : Int) > 1)) = true
      · replace h := ite_pos_some c5 h
        obtain ⟨v6, e7, h⟩ := bind_some h
        refine .reg (.mv rfl <| .teq rfl rfl <| .mv rfl <| .gYf rfl rfl rfl c4 <| .mv rfl <| .gYf rfl rfl rfl c4 <| .tlen rfl is_string <| .gYf rfl rfl rfl c4 <| .cm rfl rfl rfl <| .gYf rfl rfl rfl c4 <| .mv rfl <| .gYt rfl rfl rfl c5 <| .mv rfl <| .gYt rfl rfl rfl c5 <| .tix rfl rfl is_string (ix_some e7).1 (ix_some e7).2 <| .gYt rfl rfl rfl c5 <| .cm rfl rfl rfl <| .gYf rfl rfl rfl c4 <| .pkTb rfl c5 rfl <| .pkFb rfl c4 rfl <| .nil) rfl ?_
        by_cases c8 : ((v6.toNat : Int) == 48) = true
        · replace h := ite_pos_some c8 h
          refine .cTb rfl c8 ?_
          refine .reg (.asg rfl <| .nil) rfl ?_
          cases h
          have h := ho1
          clear ho1
          cases h
          refine .retG (fun _ _ hb => hb) rfl (.cons (.tmp rfl) .nil) (.refl _) trivial trivial
        · replace h := ite_neg_some c8 h
          refine .cFb rfl c8 ?_
          refine .skip (fun _ _ hs => ⟨(), (Option.some.inj h).symm, hs.sub ⟨⟨_, rfl, .refl _⟩, trivial⟩ trivial rfl rfl⟩)
      · replace h := ite_neg_some c5 h
        refine .reg (.mv rfl <| .teq rfl rfl <| .mv rfl <| .gYf rfl rfl rfl c4 <| .mv rfl <| .gYf rfl rfl rfl c4 <| .tlen rfl is_string <| .gYf rfl rfl rfl c4 <| .cm rfl rfl rfl <| .gYf rfl rfl rfl c4 <| .mv rfl <| .gNt rfl rfl rfl c5 <| .gNt rfl rfl rfl c5 <| .gNt rfl rfl rfl c5 <| .gYf rfl rfl rfl c4 <| .pkFb rfl c5 rfl <| .pkFb rfl c4 rfl <| .nil) rfl ?_
        refine .cFb rfl (by decide) ?_
        refine .skip (fun _ _ hs => ⟨(), (Option.some.inj h).symm, hs.sub ⟨⟨_, rfl, .refl _⟩, trivial⟩ trivial rfl rfl⟩)
  · rintro ⟨⟩ rfl
    show Ok PP _ [(0, strD a1)] [] _ _
    obtain ⟨v9, e10, h⟩ := bind_some h
    refine .reg (.mv rfl <| .callG (C_r_digits e10) ⟨rfl, trivial⟩ trivial trivial <| .asg rfl <| .nil) rfl ?_
    cases h
    refine .retG (fun _ _ hb => hb) rfl (.cons (.tmp rfl) .nil) (.refl _) trivial trivial
def m_r_Parse_l1 (v9 : List UInt8) (v12 : Int) (v13 : Int) (v14 : Int) : Option (St (Int × Int × Int) (Int × Int)) := (if (decide (v14 < (v9.length : Int))) = true then ((if (v13 == 0) = true then (ix v9 v14).bind fun v23 => (if ((v23.toNat : Int) == 47) = true then (ix v9 v14).bind fun v26 => some ((v14, (v26.toNat : Int))) else (ix v9 v14).bind fun v28 => (if ((v28.toNat : Int) == 46) = true then (ix v9 v14).bind fun v31 => some ((v14, (v31.toNat : Int))) else some ((v12, v13)))) else some ((v12, v13)))).bind fun (v33, v34) => some (St.next (v33, v34, (IntKind.i64.wrap (v14 + 1)))) else some (St.done (v12, v13)))
def m_r_Parse_l2 (v9 : List UInt8) (v81 : Int) (v82 : Bool) (v83 : List Int) : Option (St (Int × Bool × (List Int)) (Bool × (List Int))) := (if (decide (v81 < (v9.length : Int))) = true then (m_r_ZInt 10).bind fun (v89, v90) => (m_r_ZMul v82 v83 v89 v90).bind fun (v92, v93) => some (St.next ((IntKind.i64.wrap (v81 + 1)), v92, v93)) else some (St.done (v82, v83)))
def m_r_Parse_l3 (a1 : List UInt8) (v134 : Int) (v135 : Int) (v136 : Int) : Option (St (Int × Int × Int) (Int × Int)) := (if (decide (v136 < (a1.length : Int))) = true then ((if (v135 == 0) = true then (ix a1 v136).bind fun v145 => (if ((v145.toNat : Int) == 47) = true then (ix a1 v136).bind fun v148 => some ((v136, (v148.toNat : Int))) else (ix a1 v136).bind fun v150 => (if ((v150.toNat : Int) == 46) = true then (ix a1 v136).bind fun v153 => some ((v136, (v153.toNat : Int))) else some ((v134, v135)))) else some ((v134, v135)))).bind fun (v155, v156) => some (St.next (v155, v156, (IntKind.i64.wrap (v136 + 1)))) else some (St.done (v134, v135)))
def m_r_Parse_l4 (a1 : List UInt8) (v203 : Int) (v204 : Bool) (v205 : List Int) : Option (St (Int × Bool × (List Int)) (Bool × (List Int))) := (if (decide (v203 < (a1.length : Int))) = true then (m_r_ZInt 10).bind fun (v211, v212) => (m_r_ZMul v204 v205 v211 v212).bind fun (v214, v215) => some (St.next ((IntKind.i64.wrap (v203 + 1)), v214, v215)) else some (St.done (v204, v205)))
def m_r_Parse (a1 : List UInt8) : Option (((Bool × (List Int)) × (Bool × (List Int))) × Int) := (if (!(a1 == ([] : List UInt8))) = true then (ix a1 0).bind fun v3 => ((if ((v3.toNat : Int) == 45) = true then must ((0 : Int) ≤ 1 ∧ (1 : Int) ≤ (a1.length : Int)) (some ((List.drop (1 : Int).toNat a1))) else some (a1))).bind fun v9 => ((Loop (fun (s : Int × Int × Int) => m_r_Parse_l1 v9 s.1 s.2.1 s.2.2) ((v9.length : Int), 0, 0)).bind fun (v35, v36) => some ((v35, v36))).bind fun (v37, v38) => (must ((0 : Int) ≤ v37 ∧ (v37 : Int) ≤ (v9.length : Int)) ((m_r_isInt (List.take v37.toNat v9)).bind fun v42 => (if (!v42) = true then some (Ex.ret (((false, []), (false, [])), 1)) else (if (v38 == 47) = true then must ((0 : Int) ≤ (IntKind.i64.wrap (v37 + 1)) ∧ ((IntKind.i64.wrap (v37 + 1)) : Int) ≤ (v9.length : Int)) ((m_r_isInt (List.drop (IntKind.i64.wrap (v37 + 1)).toNat v9)).bind fun v47 => (if (!v47) = true then some (Ex.ret (((false, []), (false, [])), 1)) else (if (v38 == 46) = true then must ((0 : Int) ≤ (IntKind.i64.wrap (v37 + 1)) ∧ ((IntKind.i64.wrap (v37 + 1)) : Int) ≤ (v9.length : Int)) ((m_r_digits (List.drop (IntKind.i64.wrap (v37 + 1)).toNat v9)).bind fun v52 => (if (!v52) = true then some (Ex.ret (((false, []), (false, [])), 1)) else some (Ex.brk ()))) else some (Ex.brk ())))) else (if (v38 == 46) = true then must ((0 : Int) ≤ (IntKind.i64.wrap (v37 + 1)) ∧ ((IntKind.i64.wrap (v37 + 1)) : Int) ≤ (v9.length : Int)) ((m_r_digits (List.drop (IntKind.i64.wrap (v37 + 1)).toNat v9)).bind fun v57 => (if (!v57) = true then some (Ex.ret (((false, []), (false, [])), 1)) else some (Ex.brk ()))) else some (Ex.brk ())))))).bind fun o39 => (match o39 with | Ex.brk () => must ((0 : Int) ≤ v37 ∧ (v37 : Int) ≤ (v9.length : Int)) ((m_r_ZParse (List.take v37.toNat v9)).bind fun (v61, v62) => (m_r_ZInt 1).bind fun (v64, v65) => ((if (v38 == 47) = true then must ((0 : Int) ≤ (IntKind.i64.wrap (v37 + 1)) ∧ ((IntKind.i64.wrap (v37 + 1)) : Int) ≤ (v9.length : Int)) ((m_r_ZParse (List.drop (IntKind.i64.wrap (v37 + 1)).toNat v9)).bind fun (v71, v72) => some ((v71, v72))) else some ((v64, v65)))).bind fun (v74, v75) => ((if (v38 == 46) = true then ((Loop (fun (s : Int × Bool × (List Int)) => m_r_Parse_l2 v9 s.1 s.2.1 s.2.2) ((IntKind.i64.wrap (v37 + 1)), v74, v75)).bind fun (v95, v96) => some ((v95, v96))).bind fun (v97, v98) => (m_r_ZMul v61 v62 v97 v98).bind fun (v99, v100) => must ((0 : Int) ≤ (IntKind.i64.wrap (v37 + 1)) ∧ ((IntKind.i64.wrap (v37 + 1)) : Int) ≤ (v9.length : Int)) ((m_r_ZParse (List.drop (IntKind.i64.wrap (v37 + 1)).toNat v9)).bind fun (v103, v104) => (m_r_ZAdd v99 v100 v103 v104).bind fun (v106, v107) => some ((v106, v107, v97, v98))) else some ((v61, v62, v74, v75)))).bind fun (v109, v110, v111, v112) => (if ((v112.length : Int) == 0) = true then some (((false, []), (false, [])), 2) else ((if ((v3.toNat : Int) == 45) = true then (m_r_ZNeg v109 v110).bind fun (v117, v118) => some ((v117, v118)) else some ((v109, v110)))).bind fun (v120, v121) => (m_r_QOf v120 v121 v111 v112).bind fun ((v122, v123), (v124, v125)) => some (((v122, v123), (v124, v125)), 0))) | Ex.ret (((r127, r128), (r129, r130)), r131) => some (((r127, r128), (r129, r130)), r131)) else ((Loop (fun (s : Int × Int × Int) => m_r_Parse_l3 a1 s.1 s.2.1 s.2.2) ((a1.length : Int), 0, 0)).bind fun (v157, v158) => some ((v157, v158))).bind fun (v159, v160) => (must ((0 : Int) ≤ v159 ∧ (v159 : Int) ≤ (a1.length : Int)) ((m_r_isInt (List.take v159.toNat a1)).bind fun v164 => (if (!v164) = true then some (Ex.ret (((false, []), (false, [])), 1)) else (if (v160 == 47) = true then must ((0 : Int) ≤ (IntKind.i64.wrap (v159 + 1)) ∧ ((IntKind.i64.wrap (v159 + 1)) : Int) ≤ (a1.length : Int)) ((m_r_isInt (List.drop (IntKind.i64.wrap (v159 + 1)).toNat a1)).bind fun v169 => (if (!v169) = true then some (Ex.ret (((false, []), (false, [])), 1)) else (if (v160 == 46) = true then must ((0 : Int) ≤ (IntKind.i64.wrap (v159 + 1)) ∧ ((IntKind.i64.wrap (v159 + 1)) : Int) ≤ (a1.length : Int)) ((m_r_digits (List.drop (IntKind.i64.wrap (v159 + 1)).toNat a1)).bind fun v174 => (if (!v174) = true then some (Ex.ret (((false, []), (false, [])), 1)) else some (Ex.brk ()))) else some (Ex.brk ())))) else (if (v160 == 46) = true then must ((0 : Int) ≤ (IntKind.i64.wrap (v159 + 1)) ∧ ((IntKind.i64.wrap (v159 + 1)) : Int) ≤ (a1.length : Int)) ((m_r_digits (List.drop (IntKind.i64.wrap (v159 + 1)).toNat a1)).bind fun v179 => (if (!v179) = true then some (Ex.ret (((false, []), (false, [])), 1)) else some (Ex.brk ()))) else some (Ex.brk ())))))).bind fun o161 => (match o161 with | Ex.brk () => must ((0 : Int) ≤ v159 ∧ (v159 : Int) ≤ (a1.length : Int)) ((m_r_ZParse (List.take v159.toNat a1)).bind fun (v183, v184) => (m_r_ZInt 1).bind fun (v186, v187) => ((if (v160 == 47) = true then must ((0 : Int) ≤ (IntKind.i64.wrap (v159 + 1)) ∧ ((IntKind.i64.wrap (v159 + 1)) : Int) ≤ (a1.length : Int)) ((m_r_ZParse (List.drop (IntKind.i64.wrap (v159 + 1)).toNat a1)).bind fun (v193, v194) => some ((v193, v194))) else some ((v186, v187)))).bind fun (v196, v197) => ((if (v160 == 46) = true then ((Loop (fun (s : Int × Bool × (List Int)) => m_r_Parse_l4 a1 s.1 s.2.1 s.2.2) ((IntKind.i64.wrap (v159 + 1)), v196, v197)).bind fun (v217, v218) => some ((v217, v218))).bind fun (v219, v220) => (m_r_ZMul v183 v184 v219 v220).bind fun (v221, v222) => must ((0 : Int) ≤ (IntKind.i64.wrap (v159 + 1)) ∧ ((IntKind.i64.wrap (v159 + 1)) : Int) ≤ (a1.length : Int)) ((m_r_ZParse (List.drop (IntKind.i64.wrap (v159 + 1)).toNat a1)).bind fun (v225, v226) => (m_r_ZAdd v221 v222 v225 v226).bind fun (v228, v229) => some ((v228, v229, v219, v220))) else some ((v183, v184, v196, v197)))).bind fun (v231, v232, v233, v234) => (if ((v234.length : Int) == 0) = true then some (((false, []), (false, [])), 2) else (m_r_QOf v231 v232 v233 v234).bind fun ((v236, v237), (v238, v239)) => some (((v236, v237), (v238, v239)), 0))) | Ex.ret (((r241, r242), (r243, r244)), r245) => some (((r241, r242), (r243, r244)), r245)))
theorem C_r_Parse {a1 : List UInt8} {r246 : Bool} {r247 : List Int} {r248 : Bool} {r249 : List Int} {r250 : Int} (h : m_r_Parse a1 = some (((r246, r247), (r248, r249)), r250)) : CtrG PP 25 [] [strD a1] [] (D.tup [D.agg ([D.bool r246, slcE (Enc.int .i64) r247, D.bool r248, slcE (Enc.int .i64) r249]), D.int .i64 r250]) := by
  unfold m_r_Parse at h
  refine .of Go.Proofs.Tryz.func25 rfl (by kernel_rfl) rfl rfl rfl rfl rfl rfl (fun A w0 L b => ?_)
  show Ok PP _ [(0, strD a1)] [] _ _
  refine .reg (.alL ([D.bool false, D.nil, D.bool false, D.nil]) z_ambleref01_Q ⟨.refl _, .refl _, .refl _, .refl _, trivial⟩ rfl <| .asg rfl <| .nil) rfl ?_
  by_cases c2 : (!(a1 == ([] : List UInt8))) = true
  · replace h := ite_pos_some c2 h
    obtain ⟨v3, e4, h⟩ := bind_some h
    refine .reg (.mv rfl <| .tne rfl rfl <| .mv rfl <| .gYt rfl rfl rfl c2 <| .mv rfl <| .gYt rfl rfl rfl c2 <| .tix rfl rfl is_string (ix_some e4).1 (ix_some e4).2 <| .gYt rfl rfl rfl c2 <| .cm rfl rfl rfl <| .pkTb rfl c2 rfl <| .asg rfl <| .nil) rfl ?_
    obtain ⟨v9, hp6, h⟩ := bind_some h
    refine .cutX (fun i => v9 = i) (fun (i : (List UInt8)) => [(0, strD i), (2, D.ref 2 0), (4, D.bool ((v3.toNat : Int) == 45))]) (fun (i : (List UInt8)) => [(2, Hp.box 37 ([D.bool false, D.nil, D.bool false, D.nil]))]) ?_ ?_
    · have ho1 := h
      clear h
      have h := hp6
      clear hp6
      refine .reg (.mv rfl <| .nil) rfl ?_
      by_cases c7 : ((v3.toNat : Int) == 45) = true
      · replace h := ite_pos_some c7 h
        refine .cTb rfl c7 ?_
        obtain ⟨k8, h⟩ := must_some h
        refine .region (.mv rfl <| .tlo rfl rfl is_string k8.1 k8.2 <| .asg rfl <| .nil) rfl (fun _ _ hs => ⟨(List.drop (1 : Int).toNat a1), (Option.some.inj h).symm, hs.sub ⟨⟨_, rfl, .refl _⟩, ⟨_, rfl, .refl _⟩, ⟨_, rfl, .refl _⟩, trivial⟩ ⟨⟨_, rfl, .refl _⟩, trivial⟩ rfl rfl⟩)
      · replace h := ite_neg_some c7 h
        refine .cFb rfl c7 ?_
        refine .skip (fun _ _ hs => ⟨a1, (Option.some.inj h).symm, hs.sub ⟨⟨_, rfl, .refl _⟩, ⟨_, rfl, .refl _⟩, ⟨_, rfl, .refl _⟩, trivial⟩ ⟨⟨_, rfl, .refl _⟩, trivial⟩ rfl rfl⟩)
    · rintro _ rfl
      show Ok PP _ [(0, strD v9), (2, D.ref 2 0), (4, D.bool ((v3.toNat : Int) == 45))] [(2, Hp.box 37 ([D.bool false, D.nil, D.bool false, D.nil]))] _ _
      refine .reg (.mv rfl <| .tlen rfl is_string <| .asg rfl <| .asg rfl <| .nil) rfl ?_
      obtain ⟨o10, hp11, h⟩ := bind_some h
      refine .cutX (fun i => o10 = i) (fun (i : Int × Int) => [(0, strD v9), (2, D.ref 2 0), (4, D.bool ((v3.toNat : Int) == 45)), (5, D.int .i64 i.1), (6, D.int .u8 i.2)]) (fun (i : Int × Int) => [(2, Hp.box 37 ([D.bool false, D.nil, D.bool false, D.nil]))]) ?_ ?_
      · have ho1 := h
        clear h
        have h := hp11
        clear hp11
        refine .reg (.asg rfl <| .nil) rfl ?_
        obtain ⟨o15, hl16, h⟩ := bind_some h
        have ho2 := h
        clear h
        refine .block (.loopL (fun (s : Int × Int × Int) => [(0, strD v9), (2, D.ref 2 0), (4, D.bool ((v3.toNat : Int) == 45)), (5, D.int .i64 s.1), (6, D.int .u8 s.2.1), (7, D.int .i64 s.2.2)]) (fun (s : Int × Int × Int) => [(2, Hp.box 37 ([D.bool false, D.nil, D.bool false, D.nil]))]) hl16 ⟨⟨_, rfl, .refl _⟩, ⟨_, rfl, .refl _⟩, ⟨_, rfl, .refl _⟩, ⟨_, rfl, .refl _⟩, ⟨_, rfl, .refl _⟩, ⟨_, rfl, .refl _⟩, trivial⟩ ⟨⟨_, rfl, .refl _⟩, trivial⟩ rfl rfl ?_)
        rintro ⟨v12, v13, v14⟩ st17 hb18
        have h : m_r_Parse_l1 v9 v12 v13 v14 = some st17 := hb18
        clear hb18
        unfold m_r_Parse_l1 at h
        show Ok PP _ [(0, strD v9), (2, D.ref 2 0), (4, D.bool ((v3.toNat : Int) == 45)), (5, D.int .i64 v12), (6, D.int .u8 v13), (7, D.int .i64 v14)] [(2, Hp.box 37 ([D.bool false, D.nil, D.bool false, D.nil]))] _ _
        refine .sq ?_
        refine .reg (.mv rfl <| .mv rfl <| .tlen rfl is_string <| .cm rfl rfl rfl <| .nil) rfl ?_
        by_cases c19 : (decide (v14 < (v9.length : Int))) = true
        · replace h := ite_pos_some c19 h
          refine .cTb rfl c19 ?_
          refine .skip (Ok.on ?_)
          obtain ⟨o20, hp21, h⟩ := bind_some h
          refine .cutX (fun i => o20 = i) (fun (i : Int × Int) => [(0, strD v9), (2, D.ref 2 0), (4, D.bool ((v3.toNat : Int) == 45)), (5, D.int .i64 i.1), (6, D.int .u8 i.2), (7, D.int .i64 v14)]) (fun (i : Int × Int) => [(2, Hp.box 37 ([D.bool false, D.nil, D.bool false, D.nil]))]) ?_ ?_
          · have ho3 := h
            clear h
            have h := hp21
            clear hp21
            refine .block ?_
            by_cases c22 : (v13 == 0) = true
            · replace h := ite_pos_some c22 h
              obtain ⟨v23, e24, h⟩ := bind_some h
              by_cases c25 : ((v23.toNat : Int) == 47) = true
              · replace h := ite_pos_some c25 h
                refine .reg (.mv rfl <| .cm rfl rfl rfl <| .mv rfl <| .gYt rfl rfl rfl c22 <| .mv rfl <| .gYt rfl rfl rfl c22 <| .mv rfl <| .gYt rfl rfl rfl c22 <| .tix rfl rfl is_string (ix_some e24).1 (ix_some e24).2 <| .gYt rfl rfl rfl c22 <| .cm rfl rfl rfl <| .gYt rfl rfl rfl c22 <| .mv rfl <| .gNf rfl rfl rfl c25 <| .gNf rfl rfl rfl c25 <| .gNf rfl rfl rfl c25 <| .gNf rfl rfl rfl c25 <| .gYt rfl rfl rfl c22 <| .pkTb rfl c25 rfl <| .pkTb rfl c22 rfl <| .nil) rfl ?_
                refine .cTb rfl rfl ?_
                obtain ⟨v26, e27, h⟩ := bind_some h
                refine .regionD hmix (.mv rfl <| .mv rfl <| .mv rfl <| .tix rfl rfl is_string (ix_some e27).1 (ix_some e27).2 <| .asg rfl <| .asg rfl <| .nil) rfl (by kernel_rfl) (fun _ _ hs => ⟨(v14, (v26.toNat : Int)), (Option.some.inj h).symm, hs.sub ⟨⟨_, rfl, .refl _⟩, ⟨_, rfl, .refl _⟩, ⟨_, rfl, .refl _⟩, ⟨_, rfl, .refl _⟩, ⟨_, rfl, .refl _⟩, ⟨_, rfl, .refl _⟩, trivial⟩ ⟨⟨_, rfl, .refl _⟩, trivial⟩ rfl rfl⟩)
              · replace h := ite_neg_some c25 h
                obtain ⟨v28, e29, h⟩ := bind_some h
                refine .reg (.mv rfl <| .cm rfl rfl rfl <| .mv rfl <| .gYt rfl rfl rfl c22 <| .mv rfl <| .gYt rfl rfl rfl c22 <| .mv rfl <| .gYt rfl rfl rfl c22 <| .tix rfl rfl is_string (ix_some e24).1 (ix_some e24).2 <| .gYt rfl rfl rfl c22 <| .cm rfl rfl rfl <| .gYt rfl rfl rfl c22 <| .mv rfl <| .gYf rfl rfl rfl c25 <| .mv rfl <| .gYf rfl rfl rfl c25 <| .mv rfl <| .gYf rfl rfl rfl c25 <| .tix rfl rfl is_string (ix_some e29).1 (ix_some e29).2 <| .gYf rfl rfl rfl c25 <| .cm rfl rfl rfl <| .gYt rfl rfl rfl c22 <| .pkFb rfl c25 rfl <| .pkTb rfl c22 rfl <| .nil) rfl ?_
                by_cases c30 : ((v28.toNat : Int) == 46) = true
                · replace h := ite_pos_some c30 h
                  refine .cTb rfl c30 ?_
                  obtain ⟨v31, e32, h⟩ := bind_some h
                  refine .regionD hmix (.mv rfl <| .mv rfl <| .mv rfl <| .tix rfl rfl is_string (ix_some e32).1 (ix_some e32).2 <| .asg rfl <| .asg rfl <| .nil) rfl (by kernel_rfl) (fun _ _ hs => ⟨(v14, (v31.toNat : Int)), (Option.some.inj h).symm, hs.sub ⟨⟨_, rfl, .refl _⟩, ⟨_, rfl, .refl _⟩, ⟨_, rfl, .refl _⟩, ⟨_, rfl, .refl _⟩, ⟨_, rfl, .refl _⟩, ⟨_, rfl, .refl _⟩, trivial⟩ ⟨⟨_, rfl, .refl _⟩, trivial⟩ rfl rfl⟩)
                · replace h := ite_neg_some c30 h
                  refine .cFb rfl c30 ?_
                  refine .skip (fun _ _ hs => ⟨(v12, v13), (Option.some.inj h).symm, hs.sub ⟨⟨_, rfl, .refl _⟩, ⟨_, rfl, .refl _⟩, ⟨_, rfl, .refl _⟩, ⟨_, rfl, .refl _⟩, ⟨_, rfl, .refl _⟩, ⟨_, rfl, .refl _⟩, trivial⟩ ⟨⟨_, rfl, .refl _⟩, trivial⟩ rfl rfl⟩)
            · replace h := ite_neg_some c22 h
              refine .reg (.mv rfl <| .cm rfl rfl rfl <| .mv rfl <| .gNt rfl rfl rfl c22 <| .gNt rfl rfl rfl c22 <| .gNt rfl rfl rfl c22 <| .gNt rfl rfl rfl c22 <| .gNt rfl rfl rfl c22 <| .gU rfl rfl <| .gU rfl rfl <| .gU rfl rfl <| .gU rfl rfl <| .gNt rfl rfl rfl c22 <| .pkFb rfl c22 rfl <| .nil) rfl ?_
              refine .cFb rfl (by decide) ?_
              refine .skip (fun _ _ hs => ⟨(v12, v13), (Option.some.inj h).symm, hs.sub ⟨⟨_, rfl, .refl _⟩, ⟨_, rfl, .refl _⟩, ⟨_, rfl, .refl _⟩, ⟨_, rfl, .refl _⟩, ⟨_, rfl, .refl _⟩, ⟨_, rfl, .refl _⟩, trivial⟩ ⟨⟨_, rfl, .refl _⟩, trivial⟩ rfl rfl⟩)
          · rintro ⟨v33, v34⟩ rfl
            show Ok PP _ [(0, strD v9), (2, D.ref 2 0), (4, D.bool ((v3.toNat : Int) == 45)), (5, D.int .i64 v33), (6, D.int .u8 v34), (7, D.int .i64 v14)] [(2, Hp.box 37 ([D.bool false, D.nil, D.bool false, D.nil]))] _ _
            refine .region (.mv rfl <| .ar rfl rfl rfl <| .asg rfl <| .nil) rfl (fun _ _ hs => ⟨(v33, v34, (IntKind.i64.wrap (v14 + 1))), (Option.some.inj h).symm, hs.sub ⟨⟨_, rfl, .refl _⟩, ⟨_, rfl, .refl _⟩, ⟨_, rfl, .refl _⟩, ⟨_, rfl, .refl _⟩, ⟨_, rfl, .refl _⟩, ⟨_, rfl, .refl _⟩, trivial⟩ ⟨⟨_, rfl, .refl _⟩, trivial⟩ rfl rfl⟩)
        · replace h := ite_neg_some c19 h
          refine .cFb rfl c19 ?_
          refine .exit (fun a w hs => ⟨_, (Option.some.inj h).symm, fun e => by subst e; have h := ho2; exact blk_exit (⟨(v12, v13), (Option.some.inj h).symm, hs.sub ⟨⟨_, rfl, .refl _⟩, ⟨_, rfl, .refl _⟩, ⟨_, rfl, .refl _⟩, ⟨_, rfl, .refl _⟩, ⟨_, rfl, .refl _⟩, trivial⟩ ⟨⟨_, rfl, .refl _⟩, trivial⟩ rfl rfl⟩)⟩)
      · rintro ⟨v37, v38⟩ rfl
        show Ok PP _ [(0, strD v9), (2, D.ref 2 0), (4, D.bool ((v3.toNat : Int) == 45)), (5, D.int .i64 v37), (6, D.int .u8 v38)] [(2, Hp.box 37 ([D.bool false, D.nil, D.bool false, D.nil]))] _ _
        obtain ⟨o39, hp40, h⟩ := bind_some h
        refine .cutX (fun i => o39 = Ex.brk i) (fun (i : Unit) => [(0, strD v9), (2, D.ref 2 0), (4, D.bool ((v3.toNat : Int) == 45)), (5, D.int .i64 v37), (6, D.int .u8 v38)]) (fun (i : Unit) => [(2, Hp.box 37 ([D.bool false, D.nil, D.bool false, D.nil]))]) ?_ ?_
        · have ho1 := h
          clear h
          have h := hp40
          clear hp40
          obtain ⟨k41, h⟩ := must_some h
          obtain ⟨v42, e43, h⟩ := bind_some h
          by_cases c44 : (!v42) = true
          · replace h := ite_pos_some c44 h
            refine .reg (.mv rfl <| .mv rfl <| .thi rfl rfl is_string k41.1 k41.2 <| .callG (C_r_isInt e43) ⟨rfl, trivial⟩ trivial trivial <| .not rfl <| .mv rfl <| .gNf rfl rfl rfl c44 <| .gNf rfl rfl rfl c44 <| .gNf rfl rfl rfl c44 <| .gU rfl rfl <| .gU rfl rfl <| .gU rfl rfl <| .gU rfl rfl <| .gU rfl rfl <| .gU rfl rfl <| .gNf rfl rfl rfl c44 <| .pkTb rfl c44 rfl <| .mv rfl <| .gNf rfl rfl rfl rfl <| .gNf rfl rfl rfl rfl <| .gNf rfl rfl rfl rfl <| .gU rfl rfl <| .gU rfl rfl <| .gU rfl rfl <| .gU rfl rfl <| .gU rfl rfl <| .gU rfl rfl <| .gNf rfl rfl rfl rfl <| .pkTb rfl rfl rfl <| .nil) rfl ?_
            refine .cTb rfl rfl ?_
            refine .reg (.bdQ ([D.bool false, D.nil, D.bool false, D.nil]) [] z_ambleref01_Q pl_ambleref01_Q trivial trivial ⟨.refl _, .refl _, .refl _, .refl _, trivial⟩ <| .stE ([D.bool false, D.nil, D.bool false, D.nil]) rfl rfl rfl ly_ambleref01_Q rfl rfl rfl <| .asg rfl <| .nil) rfl ?_
            cases h
            have h := ho1
            clear ho1
            cases h
            refine .retG (fun _ _ hb => hb) rfl (.cons (.agg rfl rfl ly_ambleref01_Q rfl) (.cons (.tmp rfl) .nil)) (.tup ⟨.agg ⟨.refl _, .nilE _, .refl _, .nilE _, trivial⟩, .refl _, trivial⟩) trivial trivial
          · replace h := ite_neg_some c44 h
            by_cases c45 : (v38 == 47) = true
            · replace h := ite_pos_some c45 h
              obtain ⟨k46, h⟩ := must_some h
              obtain ⟨v47, e48, h⟩ := bind_some h
              by_cases c49 : (!v47) = true
              · replace h := ite_pos_some c49 h
                refine .reg (.mv rfl <| .mv rfl <| .thi rfl rfl is_string k41.1 k41.2 <| .callG (C_r_isInt e43) ⟨rfl, trivial⟩ trivial trivial <| .not rfl <| .mv rfl <| .gYf rfl rfl rfl c44 <| .mv rfl <| .gYf rfl rfl rfl c44 <| .cm rfl rfl rfl <| .gYf rfl rfl rfl c44 <| .mv rfl <| .gYt rfl rfl rfl c45 <| .mv rfl <| .gYt rfl rfl rfl c45 <| .mv rfl <| .gYt rfl rfl rfl c45 <| .ar rfl rfl rfl <| .gYt rfl rfl rfl c45 <| .tlo rfl rfl is_string k46.1 k46.2 <| .gYt rfl rfl rfl c45 <| .callG (C_r_isInt e48) ⟨rfl, trivial⟩ trivial trivial <| .gYt rfl rfl rfl c45 <| .not rfl <| .gYf rfl rfl rfl c44 <| .pkTb rfl c45 rfl <| .pkFb rfl c44 rfl <| .mv rfl <| .gNf rfl rfl rfl c49 <| .gNf rfl rfl rfl c49 <| .gNf rfl rfl rfl c49 <| .gU rfl rfl <| .gU rfl rfl <| .gU rfl rfl <| .gU rfl rfl <| .gU rfl rfl <| .gU rfl rfl <| .gNf rfl rfl rfl c49 <| .pkTb rfl c49 rfl <| .nil) rfl ?_
                refine .cTb rfl rfl ?_
                refine .reg (.bdQ ([D.bool false, D.nil, D.bool false, D.nil]) [] z_ambleref01_Q pl_ambleref01_Q trivial trivial ⟨.refl _, .refl _, .refl _, .refl _, trivial⟩ <| .stE ([D.bool false, D.nil, D.bool false, D.nil]) rfl rfl rfl ly_ambleref01_Q rfl rfl rfl <| .asg rfl <| .nil) rfl ?_
                cases h
                have h := ho1
                clear ho1
                cases h
                refine .retG (fun _ _ hb => hb) rfl (.cons (.agg rfl rfl ly_ambleref01_Q rfl) (.cons (.tmp rfl) .nil)) (.tup ⟨.agg ⟨.refl _, .nilE _, .refl _, .nilE _, trivial⟩, .refl _, trivial⟩) trivial trivial
              · replace h := ite_neg_some c49 h
                by_cases c50 : (v38 == 46) = true
                · replace h := ite_pos_some c50 h
                  obtain ⟨k51, h⟩ := must_some h
                  obtain ⟨v52, e53, h⟩ := bind_some h
                  refine .reg (.mv rfl <| .mv rfl <| .thi rfl rfl is_string k41.1 k41.2 <| .callG (C_r_isInt e43) ⟨rfl, trivial⟩ trivial trivial <| .not rfl <| .mv rfl <| .gYf rfl rfl rfl c44 <| .mv rfl <| .gYf rfl rfl rfl c44 <| .cm rfl rfl rfl <| .gYf rfl rfl rfl c44 <| .mv rfl <| .gYt rfl rfl rfl c45 <| .mv rfl <| .gYt rfl rfl rfl c45 <| .mv rfl <| .gYt rfl rfl rfl c45 <| .ar rfl rfl rfl <| .gYt rfl rfl rfl c45 <| .tlo rfl rfl is_string k46.1 k46.2 <| .gYt rfl rfl rfl c45 <| .callG (C_r_isInt e48) ⟨rfl, trivial⟩ trivial trivial <| .gYt rfl rfl rfl c45 <| .not rfl <| .gYf rfl rfl rfl c44 <| .pkTb rfl c45 rfl <| .pkFb rfl c44 rfl <| .mv rfl <| .gYf rfl rfl rfl c49 <| .mv rfl <| .gYf rfl rfl rfl c49 <| .cm rfl rfl rfl <| .gYf rfl rfl rfl c49 <| .mv rfl <| .gYt rfl rfl rfl c50 <| .mv rfl <| .gYt rfl rfl rfl c50 <| .mv rfl <| .gYt rfl rfl rfl c50 <| .ar rfl rfl rfl <| .gYt rfl rfl rfl c50 <| .tlo rfl rfl is_string k51.1 k51.2 <| .gYt rfl rfl rfl c50 <| .callG (C_r_digits e53) ⟨rfl, trivial⟩ trivial trivial <| .gYt rfl rfl rfl c50 <| .not rfl <| .gYf rfl rfl rfl c49 <| .pkTb rfl c50 rfl <| .pkFb rfl c49 rfl <| .nil) rfl ?_
                  by_cases c54 : (!v52) = true
                  · replace h := ite_pos_some c54 h
                    refine .cTb rfl c54 ?_
                    refine .reg (.bdQ ([D.bool false, D.nil, D.bool false, D.nil]) [] z_ambleref01_Q pl_ambleref01_Q trivial trivial ⟨.refl _, .refl _, .refl _, .refl _, trivial⟩ <| .stE ([D.bool false, D.nil, D.bool false, D.nil]) rfl rfl rfl ly_ambleref01_Q rfl rfl rfl <| .asg rfl <| .nil) rfl ?_
                    cases h
                    have h := ho1
                    clear ho1
                    cases h
                    refine .retG (fun _ _ hb => hb) rfl (.cons (.agg rfl rfl ly_ambleref01_Q rfl) (.cons (.tmp rfl) .nil)) (.tup ⟨.agg ⟨.refl _, .nilE _, .refl _, .nilE _, trivial⟩, .refl _, trivial⟩) trivial trivial
                  · replace h := ite_neg_some c54 h
                    refine .cFb rfl c54 ?_
                    refine .skip (fun _ _ hs => ⟨(), (Option.some.inj h).symm, hs.sub ⟨⟨_, rfl, .refl _⟩, ⟨_, rfl, .refl _⟩, ⟨_, rfl, .refl _⟩, ⟨_, rfl, .refl _⟩, ⟨_, rfl, .refl _⟩, trivial⟩ ⟨⟨_, rfl, .refl _⟩, trivial⟩ rfl rfl⟩)
                · replace h := ite_neg_some c50 h
                  refine .reg (.mv rfl <| .mv rfl <| .thi rfl rfl is_string k41.1 k41.2 <| .callG (C_r_isInt e43) ⟨rfl, trivial⟩ trivial trivial <| .not rfl <| .mv rfl <| .gYf rfl rfl rfl c44 <| .mv rfl <| .gYf rfl rfl rfl c44 <| .cm rfl rfl rfl <| .gYf rfl rfl rfl c44 <| .mv rfl <| .gYt rfl rfl rfl c45 <| .mv rfl <| .gYt rfl rfl rfl c45 <| .mv rfl <| .gYt rfl rfl rfl c45 <| .ar rfl rfl rfl <| .gYt rfl rfl rfl c45 <| .tlo rfl rfl is_string k46.1 k46.2 <| .gYt rfl rfl rfl c45 <| .callG (C_r_isInt e48) ⟨rfl, trivial⟩ trivial trivial <| .gYt rfl rfl rfl c45 <| .not rfl <| .gYf rfl rfl rfl c44 <| .pkTb rfl c45 rfl <| .pkFb rfl c44 rfl <| .mv rfl <| .gYf rfl rfl rfl c49 <| .mv rfl <| .gYf rfl rfl rfl c49 <| .cm rfl rfl rfl <| .gYf rfl rfl rfl c49 <| .mv rfl <| .gNt rfl rfl rfl c50 <| .gNt rfl rfl rfl c50 <| .gNt rfl rfl rfl c50 <| .gNt rfl rfl rfl c50 <| .gNt rfl rfl rfl c50 <| .gNt rfl rfl rfl c50 <| .gYf rfl rfl rfl c49 <| .pkFb rfl c50 rfl <| .pkFb rfl c49 rfl <| .nil) rfl ?_
                  refine .cFb rfl (by decide) ?_
                  refine .skip (fun _ _ hs => ⟨(), (Option.some.inj h).symm, hs.sub ⟨⟨_, rfl, .refl _⟩, ⟨_, rfl, .refl _⟩, ⟨_, rfl, .refl _⟩, ⟨_, rfl, .refl _⟩, ⟨_, rfl, .refl _⟩, trivial⟩ ⟨⟨_, rfl, .refl _⟩, trivial⟩ rfl rfl⟩)
            · replace h := ite_neg_some c45 h
              by_cases c55 : (v38 == 46) = true
              · replace h := ite_pos_some c55 h
                obtain ⟨k56, h⟩ := must_some h
                obtain ⟨v57, e58, h⟩ := bind_some h
                refine .reg (.mv rfl <| .mv rfl <| .thi rfl rfl is_string k41.1 k41.2 <| .callG (C_r_isInt e43) ⟨rfl, trivial⟩ trivial trivial <| .not rfl <| .mv rfl <| .gYf rfl rfl rfl c44 <| .mv rfl <| .gYf rfl rfl rfl c44 <| .cm rfl rfl rfl <| .gYf rfl rfl rfl c44 <| .mv rfl <| .gNt rfl rfl rfl c45 <| .gNt rfl rfl rfl c45 <| .gNt rfl rfl rfl c45 <| .gNt rfl rfl rfl c45 <| .gNt rfl rfl rfl c45 <| .gNt rfl rfl rfl c45 <| .gYf rfl rfl rfl c44 <| .pkFb rfl c45 rfl <| .pkFb rfl c44 rfl <| .mv rfl <| .gYf rfl rfl rfl (by decide) <| .mv rfl <| .gYf rfl rfl rfl (by decide) <| .cm rfl rfl rfl <| .gYf rfl rfl rfl (by decide) <| .mv rfl <| .gYt rfl rfl rfl c55 <| .mv rfl <| .gYt rfl rfl rfl c55 <| .mv rfl <| .gYt rfl rfl rfl c55 <| .ar rfl rfl rfl <| .gYt rfl rfl rfl c55 <| .tlo rfl rfl is_string k56.1 k56.2 <| .gYt rfl rfl rfl c55 <| .callG (C_r_digits e58) ⟨rfl, trivial⟩ trivial trivial <| .gYt rfl rfl rfl c55 <| .not rfl <| .gYf rfl rfl rfl (by decide) <| .pkTb rfl c55 rfl <| .pkFb rfl (by decide) rfl <| .nil) rfl ?_
                by_cases c59 : (!v57) = true
                · replace h := ite_pos_some c59 h
                  refine .cTb rfl c59 ?_
                  refine .reg (.bdQ ([D.bool false, D.nil, D.bool false, D.nil]) [] z_ambleref01_Q pl_ambleref01_Q trivial trivial ⟨.refl _, .refl _, .refl _, .refl _, trivial⟩ <| .stE ([D.bool false, D.nil, D.bool false, D.nil]) rfl rfl rfl ly_ambleref01_Q rfl rfl rfl <| .asg rfl <| .nil) rfl ?_
                  cases h
                  have h := ho1
                  clear ho1
                  cases h
                  refine .retG (fun _ _ hb => hb) rfl (.cons (.agg rfl rfl ly_ambleref01_Q rfl) (.cons (.tmp rfl) .nil)) (.tup ⟨.agg ⟨.refl _, .nilE _, .refl _, .nilE _, trivial⟩, .refl _, trivial⟩) trivial trivial
                · replace h := ite_neg_some c59 h
                  refine .cFb rfl c59 ?_
                  refine .skip (fun _ _ hs => ⟨(), (Option.some.inj h).symm, hs.sub ⟨⟨_, rfl, .refl _⟩, ⟨_, rfl, .refl _⟩, ⟨_, rfl, .refl _⟩, ⟨_, rfl, .refl _⟩, ⟨_, rfl, .refl _⟩, trivial⟩ ⟨⟨_, rfl, .refl _⟩, trivial⟩ rfl rfl⟩)
              · replace h := ite_neg_some c55 h
                refine .reg (.mv rfl <| .mv rfl <| .thi rfl rfl is_string k41.1 k41.2 <| .callG (C_r_isInt e43) ⟨rfl, trivial⟩ trivial trivial <| .not rfl <| .mv rfl <| .gYf rfl rfl rfl c44 <| .mv rfl <| .gYf rfl rfl rfl c44 <| .cm rfl rfl rfl <| .gYf rfl rfl rfl c44 <| .mv rfl <| .gNt rfl rfl rfl c45 <| .gNt rfl rfl rfl c45 <| .gNt rfl rfl rfl c45 <| .gNt rfl rfl rfl c45 <| .gNt rfl rfl rfl c45 <| .gNt rfl rfl rfl c45 <| .gYf rfl rfl rfl c44 <| .pkFb rfl c45 rfl <| .pkFb rfl c44 rfl <| .mv rfl <| .gYf rfl rfl rfl (by decide) <| .mv rfl <| .gYf rfl rfl rfl (by decide) <| .cm rfl rfl rfl <| .gYf rfl rfl rfl (by decide) <| .mv rfl <| .gNt rfl rfl rfl c55 <| .gNt rfl rfl rfl c55 <| .gNt rfl rfl rfl c55 <| .gNt rfl rfl rfl c55 <| .gNt rfl rfl rfl c55 <| .gNt rfl rfl rfl c55 <| .gYf rfl rfl rfl (by decide) <| .pkFb rfl c55 rfl <| .pkFb rfl (by decide) rfl <| .nil) rfl ?_
                refine .cFb rfl (by decide) ?_
                refine .skip (fun _ _ hs => ⟨(), (Option.some.inj h).symm, hs.sub ⟨⟨_, rfl, .refl _⟩, ⟨_, rfl, .refl _⟩, ⟨_, rfl, .refl _⟩, ⟨_, rfl, .refl _⟩, ⟨_, rfl, .refl _⟩, trivial⟩ ⟨⟨_, rfl, .refl _⟩, trivial⟩ rfl rfl⟩)
        · rintro ⟨⟩ rfl
          show Ok PP _ [(0, strD v9), (2, D.ref 2 0), (4, D.bool ((v3.toNat : Int) == 45)), (5, D.int .i64 v37), (6, D.int .u8 v38)] [(2, Hp.box 37 ([D.bool false, D.nil, D.bool false, D.nil]))] _ _
          obtain ⟨k60, h⟩ := must_some h
          obtain ⟨⟨v61, v62⟩, e63, h⟩ := bind_some h
          obtain ⟨⟨v64, v65⟩, e66, h⟩ := bind_some h
          refine .reg (.mv rfl <| .mv rfl <| .thi rfl rfl is_string k60.1 k60.2 <| .callG (C_r_ZParse e63) ⟨rfl, trivial⟩ trivial trivial <| .callG (C_r_ZInt e66) ⟨rfl, trivial⟩ trivial trivial <| .alL ([D.bool false, D.nil]) z_ambleref01_Z ⟨.refl _, .refl _, trivial⟩ rfl <| .alL ([D.bool false, D.nil]) z_ambleref01_Z ⟨.refl _, .refl _, trivial⟩ rfl <| .stE ([D.bool v61, slcE (Enc.int .i64) v62]) rfl rfl rfl ly_ambleref01_Z rfl rfl rfl <| .stE ([D.bool v64, slcE (Enc.int .i64) v65]) rfl rfl rfl ly_ambleref01_Z rfl rfl rfl <| .nil) rfl ?_
          obtain ⟨o67, hp68, h⟩ := bind_some h
          refine .cutX (fun i => o67 = i) (fun (i : Bool × (List Int)) => [(0, strD v9), (2, D.ref 2 0), (4, D.bool ((v3.toNat : Int) == 45)), (5, D.int .i64 v37), (6, D.int .u8 v38), (8, D.ref 8 0), (9, D.ref 9 0)]) (fun (i : Bool × (List Int)) => [(2, Hp.box 37 ([D.bool false, D.nil, D.bool false, D.nil])), (8, Hp.box 35 ([D.bool v61, slcE (Enc.int .i64) v62])), (9, Hp.box 35 ([D.bool i.1, slcE (Enc.int .i64) i.2]))]) ?_ ?_
          · have ho1 := h
            clear h
            have h := hp68
            clear hp68
            refine .reg (.mv rfl <| .cm rfl rfl rfl <| .nil) rfl ?_
            by_cases c69 : (v38 == 47) = true
            · replace h := ite_pos_some c69 h
              refine .cTb rfl c69 ?_
              obtain ⟨k70, h⟩ := must_some h
              obtain ⟨⟨v71, v72⟩, e73, h⟩ := bind_some h
              refine .region (.mv rfl <| .mv rfl <| .ar rfl rfl rfl <| .tlo rfl rfl is_string k70.1 k70.2 <| .callG (C_r_ZParse e73) ⟨rfl, trivial⟩ trivial trivial <| .stE ([D.bool v71, slcE (Enc.int .i64) v72]) rfl rfl rfl ly_ambleref01_Z rfl rfl rfl <| .nil) rfl (fun _ _ hs => ⟨(v71, v72), (Option.some.inj h).symm, hs.sub ⟨⟨_, rfl, .refl _⟩, ⟨_, rfl, .refl _⟩, ⟨_, rfl, .refl _⟩, ⟨_, rfl, .refl _⟩, ⟨_, rfl, .refl _⟩, ⟨_, rfl, .refl _⟩, ⟨_, rfl, .refl _⟩, trivial⟩ ⟨⟨_, rfl, .refl _⟩, ⟨_, rfl, .refl _⟩, ⟨_, rfl, .refl _⟩, trivial⟩ rfl rfl⟩)
            · replace h := ite_neg_some c69 h
              refine .cFb rfl c69 ?_
              refine .skip (fun _ _ hs => ⟨(v64, v65), (Option.some.inj h).symm, hs.sub ⟨⟨_, rfl, .refl _⟩, ⟨_, rfl, .refl _⟩, ⟨_, rfl, .refl _⟩, ⟨_, rfl, .refl _⟩, ⟨_, rfl, .refl _⟩, ⟨_, rfl, .refl _⟩, ⟨_, rfl, .refl _⟩, trivial⟩ ⟨⟨_, rfl, .refl _⟩, ⟨_, rfl, .refl _⟩, ⟨_, rfl, .refl _⟩, trivial⟩ rfl rfl⟩)
          · rintro ⟨v74, v75⟩ rfl
            show Ok PP _ [(0, strD v9), (2, D.ref 2 0), (4, D.bool ((v3.toNat : Int) == 45)), (5, D.int .i64 v37), (6, D.int .u8 v38), (8, D.ref 8 0), (9, D.ref 9 0)] [(2, Hp.box 37 ([D.bool false, D.nil, D.bool false, D.nil])), (8, Hp.box 35 ([D.bool v61, slcE (Enc.int .i64) v62])), (9, Hp.box 35 ([D.bool v74, slcE (Enc.int .i64) v75]))] _ _
            obtain ⟨o76, hp77, h⟩ := bind_some h
            refine .cutX (fun i => o76 = i) (fun (i : Bool × (List Int) × Bool × (List Int)) => [(2, D.ref 2 0), (4, D.bool ((v3.toNat : Int) == 45)), (8, D.ref 8 0), (9, D.ref 9 0)]) (fun (i : Bool × (List Int) × Bool × (List Int)) => [(2, Hp.box 37 ([D.bool false, D.nil, D.bool false, D.nil])), (8, Hp.box 35 ([D.bool i.1, slcE (Enc.int .i64) i.2.1])), (9, Hp.box 35 ([D.bool i.2.2.1, slcE (Enc.int .i64) i.2.2.2]))]) ?_ ?_
            · have ho1 := h
              clear h
              have h := hp77
              clear hp77
              refine .reg (.mv rfl <| .cm rfl rfl rfl <| .nil) rfl ?_
              by_cases c78 : (v38 == 46) = true
              · replace h := ite_pos_some c78 h
                refine .cTb rfl c78 ?_
                obtain ⟨o79, hp80, h⟩ := bind_some h
                refine .cutX (fun i => o79 = i) (fun (i : Bool × (List Int)) => [(0, strD v9), (2, D.ref 2 0), (4, D.bool ((v3.toNat : Int) == 45)), (5, D.int .i64 v37), (8, D.ref 8 0), (9, D.ref 9 0)]) (fun (i : Bool × (List Int)) => [(2, Hp.box 37 ([D.bool false, D.nil, D.bool false, D.nil])), (8, Hp.box 35 ([D.bool v61, slcE (Enc.int .i64) v62])), (9, Hp.box 35 ([D.bool i.1, slcE (Enc.int .i64) i.2]))]) ?_ ?_
                · have ho2 := h
                  clear h
                  have h := hp80
                  clear hp80
                  refine .reg (.mv rfl <| .ar rfl rfl rfl <| .asg rfl <| .nil) rfl ?_
                  obtain ⟨o84, hl85, h⟩ := bind_some h
                  have ho3 := h
                  clear h
                  refine .block (.loopL (fun (s : Int × Bool × (List Int)) => [(0, strD v9), (2, D.ref 2 0), (4, D.bool ((v3.toNat : Int) == 45)), (5, D.int .i64 v37), (8, D.ref 8 0), (9, D.ref 9 0), (10, D.int .i64 s.1)]) (fun (s : Int × Bool × (List Int)) => [(2, Hp.box 37 ([D.bool false, D.nil, D.bool false, D.nil])), (8, Hp.box 35 ([D.bool v61, slcE (Enc.int .i64) v62])), (9, Hp.box 35 ([D.bool s.2.1, slcE (Enc.int .i64) s.2.2]))]) hl85 ⟨⟨_, rfl, .refl _⟩, ⟨_, rfl, .refl _⟩, ⟨_, rfl, .refl _⟩, ⟨_, rfl, .refl _⟩, ⟨_, rfl, .refl _⟩, ⟨_, rfl, .refl _⟩, ⟨_, rfl, .refl _⟩, trivial⟩ ⟨⟨_, rfl, .refl _⟩, ⟨_, rfl, .refl _⟩, ⟨_, rfl, .refl _⟩, trivial⟩ rfl rfl ?_)
                  rintro ⟨v81, v82, v83⟩ st86 hb87
                  have h : m_r_Parse_l2 v9 v81 v82 v83 = some st86 := hb87
                  clear hb87
                  unfold m_r_Parse_l2 at h
                  show Ok PP _ [(0, strD v9), (2, D.ref 2 0), (4, D.bool ((v3.toNat : Int) == 45)), (5, D.int .i64 v37), (8, D.ref 8 0), (9, D.ref 9 0), (10, D.int .i64 v81)] [(2, Hp.box 37 ([D.bool false, D.nil, D.bool false, D.nil])), (8, Hp.box 35 ([D.bool v61, slcE (Enc.int .i64) v62])), (9, Hp.box 35 ([D.bool v82, slcE (Enc.int .i64) v83]))] _ _
                  refine .sq ?_
                  refine .reg (.mv rfl <| .mv rfl <| .tlen rfl is_string <| .cm rfl rfl rfl <| .nil) rfl ?_
                  by_cases c88 : (decide (v81 < (v9.length : Int))) = true
                  · replace h := ite_pos_some c88 h
                    refine .cTb rfl c88 ?_
                    refine .skip (Ok.on ?_)
                    refine .sq ?_
                    refine .block ?_
                    obtain ⟨⟨v89, v90⟩, e91, h⟩ := bind_some h
                    obtain ⟨⟨v92, v93⟩, e94, h⟩ := bind_some h
                    refine .regionD hmix (.ldE ([D.bool v82, slcE (Enc.int .i64) v83]) rfl rfl ly_ambleref01_Z rfl rfl <| .callG (C_r_ZInt e91) ⟨rfl, trivial⟩ trivial trivial <| .callG (C_r_ZMul e94) ⟨rfl, rfl, trivial⟩ trivial trivial <| .stE ([D.bool v92, slcE (Enc.int .i64) v93]) rfl rfl rfl ly_ambleref01_Z rfl rfl rfl <| .nil) rfl (by kernel_rfl) (Ok.on ?_)
                    refine .region (.mv rfl <| .ar rfl rfl rfl <| .asg rfl <| .nil) rfl (fun _ _ hs => ⟨((IntKind.i64.wrap (v81 + 1)), v92, v93), (Option.some.inj h).symm, hs.sub ⟨⟨_, rfl, .refl _⟩, ⟨_, rfl, .refl _⟩, ⟨_, rfl, .refl _⟩, ⟨_, rfl, .refl _⟩, ⟨_, rfl, .refl _⟩, ⟨_, rfl, .refl _⟩, ⟨_, rfl, .refl _⟩, trivial⟩ ⟨⟨_, rfl, .refl _⟩, ⟨_, rfl, .refl _⟩, ⟨_, rfl, .refl _⟩, trivial⟩ rfl rfl⟩)
                  · replace h := ite_neg_some c88 h
                    refine .cFb rfl c88 ?_
                    refine .exit (fun a w hs => ⟨_, (Option.some.inj h).symm, fun e => by subst e; have h := ho3; exact blk_exit (⟨(v82, v83), (Option.some.inj h).symm, hs.sub ⟨⟨_, rfl, .refl _⟩, ⟨_, rfl, .refl _⟩, ⟨_, rfl, .refl _⟩, ⟨_, rfl, .refl _⟩, ⟨_, rfl, .refl _⟩, ⟨_, rfl, .refl _⟩, trivial⟩ ⟨⟨_, rfl, .refl _⟩, ⟨_, rfl, .refl _⟩, ⟨_, rfl, .refl _⟩, trivial⟩ rfl rfl⟩)⟩)
                · rintro ⟨v97, v98⟩ rfl
                  show Ok PP _ [(0, strD v9), (2, D.ref 2 0), (4, D.bool ((v3.toNat : Int) == 45)), (5, D.int .i64 v37), (8, D.ref 8 0), (9, D.ref 9 0)] [(2, Hp.box 37 ([D.bool false, D.nil, D.bool false, D.nil])), (8, Hp.box 35 ([D.bool v61, slcE (Enc.int .i64) v62])), (9, Hp.box 35 ([D.bool v97, slcE (Enc.int .i64) v98]))] _ _
                  obtain ⟨⟨v99, v100⟩, e101, h⟩ := bind_some h
                  obtain ⟨k102, h⟩ := must_some h
                  obtain ⟨⟨v103, v104⟩, e105, h⟩ := bind_some h
                  obtain ⟨⟨v106, v107⟩, e108, h⟩ := bind_some h
                  refine .regionD hmix (.ldE ([D.bool v61, slcE (Enc.int .i64) v62]) rfl rfl ly_ambleref01_Z rfl rfl <| .ldE ([D.bool v97, slcE (Enc.int .i64) v98]) rfl rfl ly_ambleref01_Z rfl rfl <| .callG (C_r_ZMul e101) ⟨rfl, rfl, trivial⟩ trivial trivial <| .mv rfl <| .mv rfl <| .ar rfl rfl rfl <| .tlo rfl rfl is_string k102.1 k102.2 <| .callG (C_r_ZParse e105) ⟨rfl, trivial⟩ trivial trivial <| .callG (C_r_ZAdd e108) ⟨rfl, rfl, trivial⟩ trivial trivial <| .stE ([D.bool v106, slcE (Enc.int .i64) v107]) rfl rfl rfl ly_ambleref01_Z rfl rfl rfl <| .nil) rfl (by kernel_rfl) (fun _ _ hs => ⟨(v106, v107, v97, v98), (Option.some.inj h).symm, hs.sub ⟨⟨_, rfl, .refl _⟩, ⟨_, rfl, .refl _⟩, ⟨_, rfl, .refl _⟩, ⟨_, rfl, .refl _⟩, trivial⟩ ⟨⟨_, rfl, .refl _⟩, ⟨_, rfl, .refl _⟩, ⟨_, rfl, .refl _⟩, trivial⟩ rfl rfl⟩)
              · replace h := ite_neg_some c78 h
                refine .cFb rfl c78 ?_
                refine .skip (fun _ _ hs => ⟨(v61, v62, v74, v75), (Option.some.inj h).symm, hs.sub ⟨⟨_, rfl, .refl _⟩, ⟨_, rfl, .refl _⟩, ⟨_, rfl, .refl _⟩, ⟨_, rfl, .refl _⟩, trivial⟩ ⟨⟨_, rfl, .refl _⟩, ⟨_, rfl, .refl _⟩, ⟨_, rfl, .refl _⟩, trivial⟩ rfl rfl⟩)
            · rintro ⟨v109, v110, v111, v112⟩ rfl
              show Ok PP _ [(2, D.ref 2 0), (4, D.bool ((v3.toNat : Int) == 45)), (8, D.ref 8 0), (9, D.ref 9 0)] [(2, Hp.box 37 ([D.bool false, D.nil, D.bool false, D.nil])), (8, Hp.box 35 ([D.bool v109, slcE (Enc.int .i64) v110])), (9, Hp.box 35 ([D.bool v111, slcE (Enc.int .i64) v112]))] _ _
              refine .sq ?_
              refine .reg (.fa rfl f_ambleref01_Z_1 <| .ldE1 (slcE (Enc.int .i64) v112) rfl rfl ly_Lint rfl <| .lnE rfl is_Lint <| .cm rfl rfl rfl <| .nil) rfl ?_
              by_cases c113 : ((v112.length : Int) == 0) = true
              · replace h := ite_pos_some c113 h
                refine .cTb rfl c113 ?_
                refine .reg (.bdQ ([D.bool false, D.nil, D.bool false, D.nil]) [] z_ambleref01_Q pl_ambleref01_Q trivial trivial ⟨.refl _, .refl _, .refl _, .refl _, trivial⟩ <| .stE ([D.bool false, D.nil, D.bool false, D.nil]) rfl rfl rfl ly_ambleref01_Q rfl rfl rfl <| .asg rfl <| .nil) rfl ?_
                cases h
                refine .retG (fun _ _ hb => hb) rfl (.cons (.agg rfl rfl ly_ambleref01_Q rfl) (.cons (.tmp rfl) .nil)) (.tup ⟨.agg ⟨.refl _, .nilE _, .refl _, .nilE _, trivial⟩, .refl _, trivial⟩) trivial trivial
              · replace h := ite_neg_some c113 h
                refine .cFb rfl c113 ?_
                refine .skip (Ok.on ?_)
                obtain ⟨o114, hp115, h⟩ := bind_some h
                refine .cutX (fun i => o114 = i) (fun (i : Bool × (List Int)) => [(2, D.ref 2 0), (8, D.ref 8 0), (9, D.ref 9 0)]) (fun (i : Bool × (List Int)) => [(2, Hp.box 37 ([D.bool false, D.nil, D.bool false, D.nil])), (8, Hp.box 35 ([D.bool i.1, slcE (Enc.int .i64) i.2])), (9, Hp.box 35 ([D.bool v111, slcE (Enc.int .i64) v112]))]) ?_ ?_
                · have ho1 := h
                  clear h
                  have h := hp115
                  clear hp115
                  refine .reg (.mv rfl <| .nil) rfl ?_
                  by_cases c116 : ((v3.toNat : Int) == 45) = true
                  · replace h := ite_pos_some c116 h
                    refine .cTb rfl c116 ?_
                    obtain ⟨⟨v117, v118⟩, e119, h⟩ := bind_some h
                    refine .region (.ldE ([D.bool v109, slcE (Enc.int .i64) v110]) rfl rfl ly_ambleref01_Z rfl rfl <| .callG (C_r_ZNeg e119) ⟨rfl, trivial⟩ trivial trivial <| .stE ([D.bool v117, slcE (Enc.int .i64) v118]) rfl rfl rfl ly_ambleref01_Z rfl rfl rfl <| .nil) rfl (fun _ _ hs => ⟨(v117, v118), (Option.some.inj h).symm, hs.sub ⟨⟨_, rfl, .refl _⟩, ⟨_, rfl, .refl _⟩, ⟨_, rfl, .refl _⟩, trivial⟩ ⟨⟨_, rfl, .refl _⟩, ⟨_, rfl, .refl _⟩, ⟨_, rfl, .refl _⟩, trivial⟩ rfl rfl⟩)
                  · replace h := ite_neg_some c116 h
                    refine .cFb rfl c116 ?_
                    refine .skip (fun _ _ hs => ⟨(v109, v110), (Option.some.inj h).symm, hs.sub ⟨⟨_, rfl, .refl _⟩, ⟨_, rfl, .refl _⟩, ⟨_, rfl, .refl _⟩, trivial⟩ ⟨⟨_, rfl, .refl _⟩, ⟨_, rfl, .refl _⟩, ⟨_, rfl, .refl _⟩, trivial⟩ rfl rfl⟩)
                · rintro ⟨v120, v121⟩ rfl
                  show Ok PP _ [(2, D.ref 2 0), (8, D.ref 8 0), (9, D.ref 9 0)] [(2, Hp.box 37 ([D.bool false, D.nil, D.bool false, D.nil])), (8, Hp.box 35 ([D.bool v120, slcE (Enc.int .i64) v121])), (9, Hp.box 35 ([D.bool v111, slcE (Enc.int .i64) v112]))] _ _
                  obtain ⟨⟨⟨v122, v123⟩, ⟨v124, v125⟩⟩, e126, h⟩ := bind_some h
                  refine .reg (.ldE ([D.bool v120, slcE (Enc.int .i64) v121]) rfl rfl ly_ambleref01_Z rfl rfl <| .ldE ([D.bool v111, slcE (Enc.int .i64) v112]) rfl rfl ly_ambleref01_Z rfl rfl <| .callG (C_r_QOf e126) ⟨rfl, rfl, trivial⟩ trivial trivial <| .stE ([D.bool v122, slcE (Enc.int .i64) v123, D.bool v124, slcE (Enc.int .i64) v125]) rfl rfl rfl ly_ambleref01_Q rfl rfl rfl <| .asg rfl <| .nil) rfl ?_
                  cases h
                  refine .retG (fun _ _ hb => hb) rfl (.cons (.agg rfl rfl ly_ambleref01_Q rfl) (.cons (.tmp rfl) .nil)) (.refl _) trivial trivial
  · replace h := ite_neg_some c2 h
    refine .reg (.mv rfl <| .tne rfl rfl <| .mv rfl <| .gNt rfl rfl rfl c2 <| .gNt rfl rfl rfl c2 <| .gNt rfl rfl rfl c2 <| .pkFb rfl c2 rfl <| .asg rfl <| .nil) rfl ?_
    refine .sq ?_
    refine .reg (.mv rfl <| .nil) rfl ?_
    refine .cFb rfl (by decide) ?_
    refine .skip (Ok.on ?_)
    refine .reg (.mv rfl <| .tlen rfl is_string <| .asg rfl <| .asg rfl <| .nil) rfl ?_
    obtain ⟨o132, hp133, h⟩ := bind_some h
    refine .cutX (fun i => o132 = i) (fun (i : Int × Int) => [(0, strD a1), (2, D.ref 2 0), (4, D.bool false), (5, D.int .i64 i.1), (6, D.int .u8 i.2)]) (fun (i : Int × Int) => [(2, Hp.box 37 ([D.bool false, D.nil, D.bool false, D.nil]))]) ?_ ?_
    · have ho1 := h
      clear h
      have h := hp133
      clear hp133
      refine .reg (.asg rfl <| .nil) rfl ?_
      obtain ⟨o137, hl138, h⟩ := bind_some h
      have ho2 := h
      clear h
      refine .block (.loopL (fun (s : Int × Int × Int) => [(0, strD a1), (2, D.ref 2 0), (4, D.bool false), (5, D.int .i64 s.1), (6, D.int .u8 s.2.1), (7, D.int .i64 s.2.2)]) (fun (s : Int × Int × Int) => [(2, Hp.box 37 ([D.bool false, D.nil, D.bool false, D.nil]))]) hl138 ⟨⟨_, rfl, .refl _⟩, ⟨_, rfl, .refl _⟩, ⟨_, rfl, .refl _⟩, ⟨_, rfl, .refl _⟩, ⟨_, rfl, .refl _⟩, ⟨_, rfl, .refl _⟩, trivial⟩ ⟨⟨_, rfl, .refl _⟩, trivial⟩ rfl rfl ?_)
      rintro ⟨v134, v135, v136⟩ st139 hb140
      have h : m_r_Parse_l3 a1 v134 v135 v136 = some st139 := hb140
      clear hb140
      unfold m_r_Parse_l3 at h
      show Ok PP _ [(0, strD a1), (2, D.ref 2 0), (4, D.bool false), (5, D.int .i64 v134), (6, D.int .u8 v135), (7, D.int .i64 v136)] [(2, Hp.box 37 ([D.bool false, D.nil, D.bool false, D.nil]))] _ _
      refine .sq ?_
      refine .reg (.mv rfl <| .mv rfl <| .tlen rfl is_string <| .cm rfl rfl rfl <| .nil) rfl ?_
      by_cases c141 : (decide (v136 < (a1.length : Int))) = true
      · replace h := ite_pos_some c141 h
        refine .cTb rfl c141 ?_
        refine .skip (Ok.on ?_)
        obtain ⟨o142, hp143, h⟩ := bind_some h
        refine .cutX (fun i => o142 = i) (fun (i : Int × Int) => [(0, strD a1), (2, D.ref 2 0), (4, D.bool false), (5, D.int .i64 i.1), (6, D.int .u8 i.2), (7, D.int .i64 v136)]) (fun (i : Int × Int) => [(2, Hp.box 37 ([D.bool false, D.nil, D.bool false, D.nil]))]) ?_ ?_
        · have ho3 := h
          clear h
          have h := hp143
          clear hp143
          refine .block ?_
          by_cases c144 : (v135 == 0) = true
          · replace h := ite_pos_some c144 h
            obtain ⟨v145, e146, h⟩ := bind_some h
            by_cases c147 : ((v145.toNat : Int) == 47) = true
            · replace h := ite_pos_some c147 h
              refine .reg (.mv rfl <| .cm rfl rfl rfl <| .mv rfl <| .gYt rfl rfl rfl c144 <| .mv rfl <| .gYt rfl rfl rfl c144 <| .mv rfl <| .gYt rfl rfl rfl c144 <| .tix rfl rfl is_string (ix_some e146).1 (ix_some e146).2 <| .gYt rfl rfl rfl c144 <| .cm rfl rfl rfl <| .gYt rfl rfl rfl c144 <| .mv rfl <| .gNf rfl rfl rfl c147 <| .gNf rfl rfl rfl c147 <| .gNf rfl rfl rfl c147 <| .gNf rfl rfl rfl c147 <| .gYt rfl rfl rfl c144 <| .pkTb rfl c147 rfl <| .pkTb rfl c144 rfl <| .nil) rfl ?_
              refine .cTb rfl rfl ?_
              obtain ⟨v148, e149, h⟩ := bind_some h
              refine .regionD hmix (.mv rfl <| .mv rfl <| .mv rfl <| .tix rfl rfl is_string (ix_some e149).1 (ix_some e149).2 <| .asg rfl <| .asg rfl <| .nil) rfl (by kernel_rfl) (fun _ _ hs => ⟨(v136, (v148.toNat : Int)), (Option.some.inj h).symm, hs.sub ⟨⟨_, rfl, .refl _⟩, ⟨_, rfl, .refl _⟩, ⟨_, rfl, .refl _⟩, ⟨_, rfl, .refl _⟩, ⟨_, rfl, .refl _⟩, ⟨_, rfl, .refl _⟩, trivial⟩ ⟨⟨_, rfl, .refl _⟩, trivial⟩ rfl rfl⟩)
            · replace h := ite_neg_some c147 h
              obtain ⟨v150, e151, h⟩ := bind_some h
              refine .reg (.mv rfl <| .cm rfl rfl rfl <| .mv rfl <| .gYt rfl rfl rfl c144 <| .mv rfl <| .gYt rfl rfl rfl c144 <| .mv rfl <| .gYt rfl rfl rfl c144 <| .tix rfl rfl is_string (ix_some e146).1 (ix_some e146).2 <| .gYt rfl rfl rfl c144 <| .cm rfl rfl rfl <| .gYt rfl rfl rfl c144 <| .mv rfl <| .gYf rfl rfl rfl c147 <| .mv rfl <| .gYf rfl rfl rfl c147 <| .mv rfl <| .gYf rfl rfl rfl c147 <| .tix rfl rfl is_string (ix_some e151).1 (ix_some e151).2 <| .gYf rfl rfl rfl c147 <| .cm rfl rfl rfl <| .gYt rfl rfl rfl c144 <| .pkFb rfl c147 rfl <| .pkTb rfl c144 rfl <| .nil) rfl ?_
              by_cases c152 : ((v150.toNat : Int) == 46) = true
              · replace h := ite_pos_some c152 h
                refine .cTb rfl c152 ?_
                obtain ⟨v153, e154, h⟩ := bind_some h
                refine .regionD hmix (.mv rfl <| .mv rfl <| .mv rfl <| .tix rfl rfl is_string (ix_some e154).1 (ix_some e154).2 <| .asg rfl <| .asg rfl <| .nil) rfl (by kernel_rfl) (fun _ _ hs => ⟨(v136, (v153.toNat : Int)), (Option.some.inj h).symm, hs.sub ⟨⟨_, rfl, .refl _⟩, ⟨_, rfl, .refl _⟩, ⟨_, rfl, .refl _⟩, ⟨_, rfl, .refl _⟩, ⟨_, rfl, .refl _⟩, ⟨_, rfl, .refl _⟩, trivial⟩ ⟨⟨_, rfl, .refl _⟩, trivial⟩ rfl rfl⟩)
              · replace h := ite_neg_some c152 h
                refine .cFb rfl c152 ?_
                refine .skip (fun _ _ hs => ⟨(v134, v135), (Option.some.inj h).symm, hs.sub ⟨⟨_, rfl, .refl _⟩, ⟨_, rfl, .refl _⟩, ⟨_, rfl, .refl _⟩, ⟨_, rfl, .refl _⟩, ⟨_, rfl, .refl _⟩, ⟨_, rfl, .refl _⟩, trivial⟩ ⟨⟨_, rfl, .refl _⟩, trivial⟩ rfl rfl⟩)
          · replace h := ite_neg_some c144 h
            refine .reg (.mv rfl <| .cm rfl rfl rfl <| .mv rfl <| .gNt rfl rfl rfl c144 <| .gNt rfl rfl rfl c144 <| .gNt rfl rfl rfl c144 <| .gNt rfl rfl rfl c144 <| .gNt rfl rfl rfl c144 <| .gU rfl rfl <| .gU rfl rfl <| .gU rfl rfl <| .gU rfl rfl <| .gNt rfl rfl rfl c144 <| .pkFb rfl c144 rfl <| .nil) rfl ?_
            refine .cFb rfl (by decide) ?_
            refine .skip (fun _ _ hs => ⟨(v134, v135), (Option.some.inj h).symm, hs.sub ⟨⟨_, rfl, .refl _⟩, ⟨_, rfl, .refl _⟩, ⟨_, rfl, .refl _⟩, ⟨_, rfl, .refl _⟩, ⟨_, rfl, .refl _⟩, ⟨_, rfl, .refl _⟩, trivial⟩ ⟨⟨_, rfl, .refl _⟩, trivial⟩ rfl rfl⟩)
        · rintro ⟨v155, v156⟩ rfl
          show Ok PP _ [(0, strD a1), (2, D.ref 2 0), (4, D.bool false), (5, D.int .i64 v155), (6, D.int .u8 v156), (7, D.int .i64 v136)] [(2, Hp.box 37 ([D.bool false, D.nil, D.bool false, D.nil]))] _ _
          refine .region (.mv rfl <| .ar rfl rfl rfl <| .asg rfl <| .nil) rfl (fun _ _ hs => ⟨(v155, v156, (IntKind.i64.wrap (v136 + 1))), (Option.some.inj h).symm, hs.sub ⟨⟨_, rfl, .refl _⟩, ⟨_, rfl, .refl _⟩, ⟨_, rfl, .refl _⟩, ⟨_, rfl, .refl _⟩, ⟨_, rfl, .refl _⟩, ⟨_, rfl, .refl _⟩, trivial⟩ ⟨⟨_, rfl, .refl _⟩, trivial⟩ rfl rfl⟩)
      · replace h := ite_neg_some c141 h
        refine .cFb rfl c141 ?_
        refine .exit (fun a w hs => ⟨_, (Option.some.inj h).symm, fun e => by subst e; have h := ho2; exact blk_exit (⟨(v134, v135), (Option.some.inj h).symm, hs.sub ⟨⟨_, rfl, .refl _⟩, ⟨_, rfl, .refl _⟩, ⟨_, rfl, .refl _⟩, ⟨_, rfl, .refl _⟩, ⟨_, rfl, .refl _⟩, trivial⟩ ⟨⟨_, rfl, .refl _⟩, trivial⟩ rfl rfl⟩)⟩)
    · rintro ⟨v159, v160⟩ rfl
      show Ok PP _ [(0, strD a1), (2, D.ref 2 0), (4, D.bool false), (5, D.int .i64 v159), (6, D.int .u8 v160)] [(2, Hp.box 37 ([D.bool false, D.nil, D.bool false, D.nil]))] _ _
      obtain ⟨o161, hp162, h⟩ := bind_some h
      refine .cutX (fun i => o161 = Ex.brk i) (fun (i : Unit) => [(0, strD a1), (2, D.ref 2 0), (4, D.bool false), (5, D.int .i64 v159), (6, D.int .u8 v160)]) (fun (i : Unit) => [(2, Hp.box 37 ([D.bool false, D.nil, D.bool false, D.nil]))]) ?_ ?_
      · have ho1 := h
        clear h
        have h := hp162
        clear hp162
        obtain ⟨k163, h⟩ := must_some h
        obtain ⟨v164, e165, h⟩ := bind_some h
        by_cases c166 : (!v164) = true
        · replace h := ite_pos_some c166 h
          refine .reg (.mv rfl <| .mv rfl <| .thi rfl rfl is_string k163.1 k163.2 <| .callG (C_r_isInt e165) ⟨rfl, trivial⟩ trivial trivial <| .not rfl <| .mv rfl <| .gNf rfl rfl rfl c166 <| .gNf rfl rfl rfl c166 <| .gNf rfl rfl rfl c166 <| .gU rfl rfl <| .gU rfl rfl <| .gU rfl rfl <| .gU rfl rfl <| .gU rfl rfl <| .gU rfl rfl <| .gNf rfl rfl rfl c166 <| .pkTb rfl c166 rfl <| .mv rfl <| .gNf rfl rfl rfl rfl <| .gNf rfl rfl rfl rfl <| .gNf rfl rfl rfl rfl <| .gU rfl rfl <| .gU rfl rfl <| .gU rfl rfl <| .gU rfl rfl <| .gU rfl rfl <| .gU rfl rfl <| .gNf rfl rfl rfl rfl <| .pkTb rfl rfl rfl <| .nil) rfl ?_
          refine .cTb rfl rfl ?_
          refine .reg (.bdQ ([D.bool false, D.nil, D.bool false, D.nil]) [] z_ambleref01_Q pl_ambleref01_Q trivial trivial ⟨.refl _, .refl _, .refl _, .refl _, trivial⟩ <| .stE ([D.bool false, D.nil, D.bool false, D.nil]) rfl rfl rfl ly_ambleref01_Q rfl rfl rfl <| .asg rfl <| .nil) rfl ?_
          cases h
          have h := ho1
          clear ho1
          cases h
          refine .retG (fun _ _ hb => hb) rfl (.cons (.agg rfl rfl ly_ambleref01_Q rfl) (.cons (.tmp rfl) .nil)) (.tup ⟨.agg ⟨.refl _, .nilE _, .refl _, .nilE _, trivial⟩, .refl _, trivial⟩) trivial trivial
        · replace h := ite_neg_some c166 h
          by_cases c167 : (v160 == 47) = true
          · replace h := ite_pos_some c167 h
            obtain ⟨k168, h⟩ := must_some h
            obtain ⟨v169, e170, h⟩ := bind_some h
            by_cases c171 : (!v169) = true
            · replace h := ite_pos_some c171 h
              refine .reg (.mv rfl <| .mv rfl <| .thi rfl rfl is_string k163.1 k163.2 <| .callG (C_r_isInt e165) ⟨rfl, trivial⟩ trivial trivial <| .not rfl <| .mv rfl <| .gYf rfl rfl rfl c166 <| .mv rfl <| .gYf rfl rfl rfl c166 <| .cm rfl rfl rfl <| .gYf rfl rfl rfl c166 <| .mv rfl <| .gYt rfl rfl rfl c167 <| .mv rfl <| .gYt rfl rfl rfl c167 <| .mv rfl <| .gYt rfl rfl rfl c167 <| .ar rfl rfl rfl <| .gYt rfl rfl rfl c167 <| .tlo rfl rfl is_string k168.1 k168.2 <| .gYt rfl rfl rfl c167 <| .callG (C_r_isInt e170) ⟨rfl, trivial⟩ trivial trivial <| .gYt rfl rfl rfl c167 <| .not rfl <| .gYf rfl rfl rfl c166 <| .pkTb rfl c167 rfl <| .pkFb rfl c166 rfl <| .mv rfl <| .gNf rfl rfl rfl c171 <| .gNf rfl rfl rfl c171 <| .gNf rfl rfl rfl c171 <| .gU rfl rfl <| .gU rfl rfl <| .gU rfl rfl <| .gU rfl rfl <| .gU rfl rfl <| .gU rfl rfl <| .gNf rfl rfl rfl c171 <| .pkTb rfl c171 rfl <| .nil) rfl ?_
              refine .cTb rfl rfl ?_
              refine .reg (.bdQ ([D.bool false, D.nil, D.bool false, D.nil]) [] z_ambleref01_Q pl_ambleref01_Q trivial trivial ⟨.refl _, .refl _, .refl _, .refl _, trivial⟩ <| .stE ([D.bool false, D.nil, D.bool false, D.nil]) rfl rfl rfl ly_ambleref01_Q rfl rfl rfl <| .asg rfl <| .nil) rfl ?_
              cases h
              have h := ho1
              clear ho1
              cases h
              refine .retG (fun _ _ hb => hb) rfl (.cons (.agg rfl rfl ly_ambleref01_Q rfl) (.cons (.tmp rfl) .nil)) (.tup ⟨.agg ⟨.refl _, .nilE _, .refl _, .nilE _, trivial⟩, .refl _, trivial⟩) trivial trivial
            · replace h := ite_neg_some c171 h
              by_cases c172 : (v160 == 46) = true
              · replace h := ite_pos_some c172 h
                obtain ⟨k173, h⟩ := must_some h
                obtain ⟨v174, e175, h⟩ := bind_some h
                refine .reg (.mv rfl <| .mv rfl <| .thi rfl rfl is_string k163.1 k163.2 <| .callG (C_r_isInt e165) ⟨rfl, trivial⟩ trivial trivial <| .not rfl <| .mv rfl <| .gYf rfl rfl rfl c166 <| .mv rfl <| .gYf rfl rfl rfl c166 <| .cm rfl rfl rfl <| .gYf rfl rfl rfl c166 <| .mv rfl <| .gYt rfl rfl rfl c167 <| .mv rfl <| .gYt rfl rfl rfl c167 <| .mv rfl <| .gYt rfl rfl rfl c167 <| .ar rfl rfl rfl <| .gYt rfl rfl rfl c167 <| .tlo rfl rfl is_string k168.1 k168.2 <| .gYt rfl rfl rfl c167 <| .callG (C_r_isInt e170) ⟨rfl, trivial⟩ trivial trivial <| .gYt rfl rfl rfl c167 <| .not rfl <| .gYf rfl rfl rfl c166 <| .pkTb rfl c167 rfl <| .pkFb rfl c166 rfl <| .mv rfl <| .gYf rfl rfl rfl c171 <| .mv rfl <| .gYf rfl rfl rfl c171 <| .cm rfl rfl rfl <| .gYf rfl rfl rfl c171 <| .mv rfl <| .gYt rfl rfl rfl c172 <| .mv rfl <| .gYt rfl rfl rfl c172 <| .mv rfl <| .gYt rfl rfl rfl c172 <| .ar rfl rfl rfl <| .gYt rfl rfl rfl c172 <| .tlo rfl rfl is_string k173.1 k173.2 <| .gYt rfl rfl rfl c172 <| .callG (C_r_digits e175) ⟨rfl, trivial⟩ trivial trivial <| .gYt rfl rfl rfl c172 <| .not rfl <| .gYf rfl rfl rfl c171 <| .pkTb rfl c172 rfl <| .pkFb rfl c171 rfl <| .nil) rfl ?_
                by_cases c176 : (!v174) = true
                · replace h := ite_pos_some c176 h
                  refine .cTb rfl c176 ?_
                  refine .reg (.bdQ ([D.bool false, D.nil, D.bool false, D.nil]) [] z_ambleref01_Q pl_ambleref01_Q trivial trivial ⟨.refl _, .refl _, .refl _, .refl _, trivial⟩ <| .stE ([D.bool false, D.nil, D.bool false, D.nil]) rfl rfl rfl ly_ambleref01_Q rfl rfl rfl <| .asg rfl <| .nil) rfl ?_
                  cases h
                  have h := ho1
                  clear ho1
                  cases h
                  refine .retG (fun _ _ hb => hb) rfl (.cons (.agg rfl rfl ly_ambleref01_Q rfl) (.cons (.tmp rfl) .nil)) (.tup ⟨.agg ⟨.refl _, .nilE _, .refl _, .nilE _, trivial⟩, .refl _, trivial⟩) trivial trivial
                · replace h := ite_neg_some c176 h
                  refine .cFb rfl c176 ?_
                  refine .skip (fun _ _ hs => ⟨(), (Option.some.inj h).symm, hs.sub ⟨⟨_, rfl, .refl _⟩, ⟨_, rfl, .refl _⟩, ⟨_, rfl, .refl _⟩, ⟨_, rfl, .refl _⟩, ⟨_, rfl, .refl _⟩, trivial⟩ ⟨⟨_, rfl, .refl _⟩, trivial⟩ rfl rfl⟩)
              · replace h := ite_neg_some c172 h
                refine .reg (.mv rfl <| .mv rfl <| .thi rfl rfl is_string k163.1 k163.2 <| .callG (C_r_isInt e165) ⟨rfl, trivial⟩ trivial trivial <| .not rfl <| .mv rfl <| .gYf rfl rfl rfl c166 <| .mv rfl <| .gYf rfl rfl rfl c166 <| .cm rfl rfl rfl <| .gYf rfl rfl rfl c166 <| .mv rfl <| .gYt rfl rfl rfl c167 <| .mv rfl <| .gYt rfl rfl rfl c167 <| .mv rfl <| .gYt rfl rfl rfl c167 <| .ar rfl rfl rfl <| .gYt rfl rfl rfl c167 <| .tlo rfl rfl is_string k168.1 k168.2 <| .gYt rfl rfl rfl c167 <| .callG (C_r_isInt e170) ⟨rfl, trivial⟩ trivial trivial <| .gYt rfl rfl rfl c167 <| .not rfl <| .gYf rfl rfl rfl c166 <| .pkTb rfl c167 rfl <| .pkFb rfl c166 rfl <| .mv rfl <| .gYf rfl rfl rfl c171 <| .mv rfl <| .gYf rfl rfl rfl c171 <| .cm rfl rfl rfl <| .gYf rfl rfl rfl c171 <| .mv rfl <| .gNt rfl rfl rfl c172 <| .gNt rfl rfl rfl c172 <| .gNt rfl rfl rfl c172 <| .gNt rfl rfl rfl c172 <| .gNt rfl rfl rfl c172 <| .gNt rfl rfl rfl c172 <| .gYf rfl rfl rfl c171 <| .pkFb rfl c172 rfl <| .pkFb rfl c171 rfl <| .nil) rfl ?_
                refine .cFb rfl (by decide) ?_
                refine .skip (fun _ _ hs => ⟨(), (Option.some.inj h).symm, hs.sub ⟨⟨_, rfl, .refl _⟩, ⟨_, rfl, .refl _⟩, ⟨_, rfl, .refl _⟩, ⟨_, rfl, .refl _⟩, ⟨_, rfl, .refl _⟩, trivial⟩ ⟨⟨_, rfl, .refl _⟩, trivial⟩ rfl rfl⟩)
          · replace h := ite_neg_some c167 h
            by_cases c177 : (v160 == 46) = true
            · replace h := ite_pos_some c177 h
              obtain ⟨k178, h⟩ := must_some h
              obtain ⟨v179, e180, h⟩ := bind_some h
              refine .reg (.mv rfl <| .mv rfl <| .thi rfl rfl is_string k163.1 k163.2 <| .callG (C_r_isInt e165) ⟨rfl, trivial⟩ trivial trivial <| .not rfl <| .mv rfl <| .gYf rfl rfl rfl c166 <| .mv rfl <| .gYf rfl rfl rfl c166 <| .cm rfl rfl rfl <| .gYf rfl rfl rfl c166 <| .mv rfl <| .gNt rfl rfl rfl c167 <| .gNt rfl rfl rfl c167 <| .gNt rfl rfl rfl c167 <| .gNt rfl rfl rfl c167 <| .gNt rfl rfl rfl c167 <| .gNt rfl rfl rfl c167 <| .gYf rfl rfl rfl c166 <| .pkFb rfl c167 rfl <| .pkFb rfl c166 rfl <| .mv rfl <| .gYf rfl rfl rfl (by decide) <| .mv rfl <| .gYf rfl rfl rfl (by decide) <| .cm rfl rfl rfl <| .gYf rfl rfl rfl (by decide) <| .mv rfl <| .gYt rfl rfl rfl c177 <| .mv rfl <| .gYt rfl rfl rfl c177 <| .mv rfl <| .gYt rfl rfl rfl c177 <| .ar rfl rfl rfl <| .gYt rfl rfl rfl c177 <| .tlo rfl rfl is_string k178.1 k178.2 <| .gYt rfl rfl rfl c177 <| .callG (C_r_digits e180) ⟨rfl, trivial⟩ trivial trivial <| .gYt rfl rfl rfl c177 <| .not rfl <| .gYf rfl rfl rfl (by decide) <| .pkTb rfl c177 rfl <| .pkFb rfl (by decide) rfl <| .nil) rfl ?_
              by_cases c181 : (!v179) = true
              · replace h := ite_pos_some c181 h
                refine .cTb rfl c181 ?_
                refine .reg (.bdQ ([D.bool false, D.nil, D.bool false, D.nil]) [] z_ambleref01_Q pl_ambleref01_Q trivial trivial ⟨.refl _, .refl _, .refl _, .refl _, trivial⟩ <| .stE ([D.bool false, D.nil, D.bool false, D.nil]) rfl rfl rfl ly_ambleref01_Q rfl rfl rfl <| .asg rfl <| .nil) rfl ?_
                cases h
                have h := ho1
                clear ho1
                cases h
                refine .retG (fun _ _ hb => hb) rfl (.cons (.agg rfl rfl ly_ambleref01_Q rfl) (.cons (.tmp rfl) .nil)) (.tup ⟨.agg ⟨.refl _, .nilE _, .refl _, .nilE _, trivial⟩, .refl _, trivial⟩) trivial trivial
              · replace h := ite_neg_some c181 h
                refine .cFb rfl c181 ?_
                refine .skip (fun _ _ hs => ⟨(), (Option.some.inj h).symm, hs.sub ⟨⟨_, rfl, .refl _⟩, ⟨_, rfl, .refl _⟩, ⟨_, rfl, .refl _⟩, ⟨_, rfl, .refl _⟩, ⟨_, rfl, .refl _⟩, trivial⟩ ⟨⟨_, rfl, .refl _⟩, trivial⟩ rfl rfl⟩)
            · replace h := ite_neg_some c177 h
              refine .reg (.mv rfl <| .mv rfl <| .thi rfl rfl is_string k163.1 k163.2 <| .callG (C_r_isInt e165) ⟨rfl, trivial⟩ trivial trivial <| .not rfl <| .mv rfl <| .gYf rfl rfl rfl c166 <| .mv rfl <| .gYf rfl rfl rfl c166 <| .cm rfl rfl rfl <| .gYf rfl rfl rfl c166 <| .mv rfl <| .gNt rfl rfl rfl c167 <| .gNt rfl rfl rfl c167 <| .gNt rfl rfl rfl c167 <| .gNt rfl rfl rfl c167 <| .gNt rfl rfl rfl c167 <| .gNt rfl rfl rfl c167 <| .gYf rfl rfl rfl c166 <| .pkFb rfl c167 rfl <| .pkFb rfl c166 rfl <| .mv rfl <| .gYf rfl rfl rfl (by decide) <| .mv rfl <| .gYf rfl rfl rfl (by decide) <| .cm rfl rfl rfl <| .gYf rfl rfl rfl (by decide) <| .mv rfl <| .gNt rfl rfl rfl c177 <| .gNt rfl rfl rfl c177 <| .gNt rfl rfl rfl c177 <| .gNt rfl rfl rfl c177 <| .gNt rfl rfl rfl c177 <| .gNt rfl rfl rfl c177 <| .gYf rfl rfl rfl (by decide) <| .pkFb rfl c177 rfl <| .pkFb rfl (by decide) rfl <| .nil) rfl ?_
              refine .cFb rfl (by decide) ?_
              refine .skip (fun _ _ hs => ⟨(), (Option.some.inj h).symm, hs.sub ⟨⟨_, rfl, .refl _⟩, ⟨_, rfl, .refl _⟩, ⟨_, rfl, .refl _⟩, ⟨_, rfl, .refl _⟩, ⟨_, rfl, .refl _⟩, trivial⟩ ⟨⟨_, rfl, .refl _⟩, trivial⟩ rfl rfl⟩)
      · rintro ⟨⟩ rfl
        show Ok PP _ [(0, strD a1), (2, D.ref 2 0), (4, D.bool false), (5, D.int .i64 v159), (6, D.int .u8 v160)] [(2, Hp.box 37 ([D.bool false, D.nil, D.bool false, D.nil]))] _ _
        obtain ⟨k182, h⟩ := must_some h
        obtain ⟨⟨v183, v184⟩, e185, h⟩ := bind_some h
        obtain ⟨⟨v186, v187⟩, e188, h⟩ := bind_some h
        refine .reg (.mv rfl <| .mv rfl <| .thi rfl rfl is_string k182.1 k182.2 <| .callG (C_r_ZParse e185) ⟨rfl, trivial⟩ trivial trivial <| .callG (C_r_ZInt e188) ⟨rfl, trivial⟩ trivial trivial <| .alL ([D.bool false, D.nil]) z_ambleref01_Z ⟨.refl _, .refl _, trivial⟩ rfl <| .alL ([D.bool false, D.nil]) z_ambleref01_Z ⟨.refl _, .refl _, trivial⟩ rfl <| .stE ([D.bool v183, slcE (Enc.int .i64) v184]) rfl rfl rfl ly_ambleref01_Z rfl rfl rfl <| .stE ([D.bool v186, slcE (Enc.int .i64) v187]) rfl rfl rfl ly_ambleref01_Z rfl rfl rfl <| .nil) rfl ?_
        obtain ⟨o189, hp190, h⟩ := bind_some h
        refine .cutX (fun i => o189 = i) (fun (i : Bool × (List Int)) => [(0, strD a1), (2, D.ref 2 0), (4, D.bool false), (5, D.int .i64 v159), (6, D.int .u8 v160), (8, D.ref 8 0), (9, D.ref 9 0)]) (fun (i : Bool × (List Int)) => [(2, Hp.box 37 ([D.bool false, D.nil, D.bool false, D.nil])), (8, Hp.box 35 ([D.bool v183, slcE (Enc.int .i64) v184])), (9, Hp.box 35 ([D.bool i.1, slcE (Enc.int .i64) i.2]))]) ?_ ?_
        · have ho1 := h
          clear h
          have h := hp190
          clear hp190
          refine .reg (.mv rfl <| .cm rfl rfl rfl <| .nil) rfl ?_
          by_cases c191 : (v160 == 47) = true
          · replace h := ite_pos_some c191 h
            refine .cTb rfl c191 ?_
            obtain ⟨k192, h⟩ := must_some h
            obtain ⟨⟨v193, v194⟩, e195, h⟩ := bind_some h
            refine .region (.mv rfl <| .mv rfl <| .ar rfl rfl rfl <| .tlo rfl rfl is_string k192.1 k192.2 <| .callG (C_r_ZParse e195) ⟨rfl, trivial⟩ trivial trivial <| .stE ([D.bool v193, slcE (Enc.int .i64) v194]) rfl rfl rfl ly_ambleref01_Z rfl rfl rfl <| .nil) rfl (fun _ _ hs => ⟨(v193, v194), (Option.some.inj h).symm, hs.sub ⟨⟨_, rfl, .refl _⟩, ⟨_, rfl, .refl _⟩, ⟨_, rfl, .refl _⟩, ⟨_, rfl, .refl _⟩, ⟨_, rfl, .refl _⟩, ⟨_, rfl, .refl _⟩, ⟨_, rfl, .refl _⟩, trivial⟩ ⟨⟨_, rfl, .refl _⟩, ⟨_, rfl, .refl _⟩, ⟨_, rfl, .refl _⟩, trivial⟩ rfl rfl⟩)
          · replace h := ite_neg_some c191 h
            refine .cFb rfl c191 ?_
            refine .skip (fun _ _ hs => ⟨(v186, v187), (Option.some.inj h).symm, hs.sub ⟨⟨_, rfl, .refl _⟩, ⟨_, rfl, .refl _⟩, ⟨_, rfl, .refl _⟩, ⟨_, rfl, .refl _⟩, ⟨_, rfl, .refl _⟩, ⟨_, rfl, .refl _⟩, ⟨_, rfl, .refl _⟩, trivial⟩ ⟨⟨_, rfl, .refl _⟩, ⟨_, rfl, .refl _⟩, ⟨_, rfl, .refl _⟩, trivial⟩ rfl rfl⟩)
        · rintro ⟨v196, v197⟩ rfl
          show Ok PP _ [(0, strD a1), (2, D.ref 2 0), (4, D.bool false), (5, D.int .i64 v159), (6, D.int .u8 v160), (8, D.ref 8 0), (9, D.ref 9 0)] [(2, Hp.box 37 ([D.bool false, D.nil, D.bool false, D.nil])), (8, Hp.box 35 ([D.bool v183, slcE (Enc.int .i64) v184])), (9, Hp.box 35 ([D.bool v196, slcE (Enc.int .i64) v197]))] _ _
          obtain ⟨o198, hp199, h⟩ := bind_some h
          refine .cutX (fun i => o198 = i) (fun (i : Bool × (List Int) × Bool × (List Int)) => [(2, D.ref 2 0), (4, D.bool false), (8, D.ref 8 0), (9, D.ref 9 0)]) (fun (i : Bool × (List Int) × Bool × (List Int)) => [(2, Hp.box 37 ([D.bool false, D.nil, D.bool false, D.nil])), (8, Hp.box 35 ([D.bool i.1, slcE (Enc.int .i64) i.2.1])), (9, Hp.box 35 ([D.bool i.2.2.1, slcE (Enc.int .i64) i.2.2.2]))]) ?_ ?_
          · have ho1 := h
            clear h
            have h := hp199
            clear hp199
            refine .reg (.mv rfl <| .cm rfl rfl rfl <| .nil) rfl ?_
            by_cases c200 : (v160 == 46) = true
            · replace h := ite_pos_some c200 h
              refine .cTb rfl c200 ?_
              obtain ⟨o201, hp202, h⟩ := bind_some h
              refine .cutX (fun i => o201 = i) (fun (i : Bool × (List Int)) => [(0, strD a1), (2, D.ref 2 0), (4, D.bool false), (5, D.int .i64 v159), (8, D.ref 8 0), (9, D.ref 9 0)]) (fun (i : Bool × (List Int)) => [(2, Hp.box 37 ([D.bool false, D.nil, D.bool false, D.nil])), (8, Hp.box 35 ([D.bool v183, slcE (Enc.int .i64) v184])), (9, Hp.box 35 ([D.bool i.1, slcE (Enc.int .i64) i.2]))]) ?_ ?_
              · have ho2 := h
                clear h
                have h := hp202
                clear hp202
                refine .reg (.mv rfl <| .ar rfl rfl rfl <| .asg rfl <| .nil) rfl ?_
                obtain ⟨o206, hl207, h⟩ := bind_some h
                have ho3 := h
                clear h
                refine .block (.loopL (fun (s : Int × Bool × (List Int)) => [(0, strD a1), (2, D.ref 2 0), (4, D.bool false), (5, D.int .i64 v159), (8, D.ref 8 0), (9, D.ref 9 0), (10, D.int .i64 s.1)]) (fun (s : Int × Bool × (List Int)) => [(2, Hp.box 37 ([D.bool false, D.nil, D.bool false, D.nil])), (8, Hp.box 35 ([D.bool v183, slcE (Enc.int .i64) v184])), (9, Hp.box 35 ([D.bool s.2.1, slcE (Enc.int .i64) s.2.2]))]) hl207 ⟨⟨_, rfl, .refl _⟩, ⟨_, rfl, .refl _⟩, ⟨_, rfl, .refl _⟩, ⟨_, rfl, .refl _⟩, ⟨_, rfl, .refl _⟩, ⟨_, rfl, .refl _⟩, ⟨_, rfl, .refl _⟩, trivial⟩ ⟨⟨_, rfl, .refl _⟩, ⟨_, rfl, .refl _⟩, ⟨_, rfl, .refl _⟩, trivial⟩ rfl rfl ?_)
                rintro ⟨v203, v204, v205⟩ st208 hb209
                have h : m_r_Parse_l4 a1 v203 v204 v205 = some st208 := hb209
                clear hb209
                unfold m_r_Parse_l4 at h
                show Ok PP _ [(0, strD a1), (2, D.ref 2 0), (4, D.bool false), (5, D.int .i64 v159), (8, D.ref 8 0), (9, D.ref 9 0), (10, D.int .i64 v203)] [(2, Hp.box 37 ([D.bool false, D.nil, D.bool false, D.nil])), (8, Hp.box 35 ([D.bool v183, slcE (Enc.int .i64) v184])), (9, Hp.box 35 ([D.bool v204, slcE (Enc.int .i64) v205]))] _ _
                refine .sq ?_
                refine .reg (.mv rfl <| .mv rfl <| .tlen rfl is_string <| .cm rfl rfl rfl <| .nil) rfl ?_
                by_cases c210 : (decide (v203 < (a1.length : Int))) = true
                · replace h := ite_pos_some c210 h
                  refine .cTb rfl c210 ?_
                  refine .skip (Ok.on ?_)
                  refine .sq ?_
                  refine .block ?_
                  obtain ⟨⟨v211, v212⟩, e213, h⟩ := bind_some h
                  obtain ⟨⟨v214, v215⟩, e216, h⟩ := bind_some h
                  refine .regionD hmix (.ldE ([D.bool v204, slcE (Enc.int .i64) v205]) rfl rfl ly_ambleref01_Z rfl rfl <| .callG (C_r_ZInt e213) ⟨rfl, trivial⟩ trivial trivial <| .callG (C_r_ZMul e216) ⟨rfl, rfl, trivial⟩ trivial trivial <| .stE ([D.bool v214, slcE (Enc.int .i64) v215]) rfl rfl rfl ly_ambleref01_Z rfl rfl rfl <| .nil) rfl (by kernel_rfl) (Ok.on ?_)
                  refine .region (.mv rfl <| .ar rfl rfl rfl <| .asg rfl <| .nil) rfl (fun _ _ hs => ⟨((IntKind.i64.wrap (v203 + 1)), v214, v215), (Option.some.inj h).symm, hs.sub ⟨⟨_, rfl, .refl _⟩, ⟨_, rfl, .refl _⟩, ⟨_, rfl, .refl _⟩, ⟨_, rfl, .refl _⟩, ⟨_, rfl, .refl _⟩, ⟨_, rfl, .refl _⟩, ⟨_, rfl, .refl _⟩, trivial⟩ ⟨⟨_, rfl, .refl _⟩, ⟨_, rfl, .refl _⟩, ⟨_, rfl, .refl _⟩, trivial⟩ rfl rfl⟩)
                · replace h := ite_neg_some c210 h
                  refine .cFb rfl c210 ?_
                  refine .exit (fun a w hs => ⟨_, (Option.some.inj h).symm, fun e => by subst e; have h := ho3; exact blk_exit (⟨(v204, v205), (Option.some.inj h).symm, hs.sub ⟨⟨_, rfl, .refl _⟩, ⟨_, rfl, .refl _⟩, ⟨_, rfl, .refl _⟩, ⟨_, rfl, .refl _⟩, ⟨_, rfl, .refl _⟩, ⟨_, rfl, .refl _⟩, trivial⟩ ⟨⟨_, rfl, .refl _⟩, ⟨_, rfl, .refl _⟩, ⟨_, rfl, .refl _⟩, trivial⟩ rfl rfl⟩)⟩)
              · rintro ⟨v219, v220⟩ rfl
                show Ok PP _ [(0, strD a1), (2, D.ref 2 0), (4, D.bool false), (5, D.int .i64 v159), (8, D.ref 8 0), (9, D.ref 9 0)] [(2, Hp.box 37 ([D.bool false, D.nil, D.bool false, D.nil])), (8, Hp.box 35 ([D.bool v183, slcE (Enc.int .i64) v184])), (9, Hp.box 35 ([D.bool v219, slcE (Enc.int .i64) v220]))] _ _
                obtain ⟨⟨v221, v222⟩, e223, h⟩ := bind_some h
                obtain ⟨k224, h⟩ := must_some h
                obtain ⟨⟨v225, v226⟩, e227, h⟩ := bind_some h
                obtain ⟨⟨v228, v229⟩, e230, h⟩ := bind_some h
                refine .regionD hmix (.ldE ([D.bool v183, slcE (Enc.int .i64) v184]) rfl rfl ly_ambleref01_Z rfl rfl <| .ldE ([D.bool v219, slcE (Enc.int .i64) v220]) rfl rfl ly_ambleref01_Z rfl rfl <| .callG (C_r_ZMul e223) ⟨rfl, rfl, trivial⟩ trivial trivial <| .mv rfl <| .mv rfl <| .ar rfl rfl rfl <| .tlo rfl rfl is_string k224.1 k224.2 <| .callG (C_r_ZParse e227) ⟨rfl, trivial⟩ trivial trivial <| .callG (C_r_ZAdd e230) ⟨rfl, rfl, trivial⟩ trivial trivial <| .stE ([D.bool v228, slcE (Enc.int .i64) v229]) rfl rfl rfl ly_ambleref01_Z rfl rfl rfl <| .nil) rfl (by kernel_rfl) (fun _ _ hs => ⟨(v228, v229, v219, v220), (Option.some.inj h).symm, hs.sub ⟨⟨_, rfl, .refl _⟩, ⟨_, rfl, .refl _⟩, ⟨_, rfl, .refl _⟩, ⟨_, rfl, .refl _⟩, trivial⟩ ⟨⟨_, rfl, .refl _⟩, ⟨_, rfl, .refl _⟩, ⟨_, rfl, .refl _⟩, trivial⟩ rfl rfl⟩)
            · replace h := ite_neg_some c200 h
              refine .cFb rfl c200 ?_
              refine .skip (fun _ _ hs => ⟨(v183, v184, v196, v197), (Option.some.inj h).symm, hs.sub ⟨⟨_, rfl, .refl _⟩, ⟨_, rfl, .refl _⟩, ⟨_, rfl, .refl _⟩, ⟨_, rfl, .refl _⟩, trivial⟩ ⟨⟨_, rfl, .refl _⟩, ⟨_, rfl, .refl _⟩, ⟨_, rfl, .refl _⟩, trivial⟩ rfl rfl⟩)
          · rintro ⟨v231, v232, v233, v234⟩ rfl
            show Ok PP _ [(2, D.ref 2 0), (4, D.bool false), (8, D.ref 8 0), (9, D.ref 9 0)] [(2, Hp.box 37 ([D.bool false, D.nil, D.bool false, D.nil])), (8, Hp.box 35 ([D.bool v231, slcE (Enc.int .i64) v232])), (9, Hp.box 35 ([D.bool v233, slcE (Enc.int .i64) v234]))] _ _
            refine .sq ?_
            refine .reg (.fa rfl f_ambleref01_Z_1 <| .ldE1 (slcE (Enc.int .i64) v234) rfl rfl ly_Lint rfl <| .lnE rfl is_Lint <| .cm rfl rfl rfl <| .nil) rfl ?_
            by_cases c235 : ((v234.length : Int) == 0) = true
            · replace h := ite_pos_some c235 h
              refine .cTb rfl c235 ?_
              refine .reg (.bdQ ([D.bool false, D.nil, D.bool false, D.nil]) [] z_ambleref01_Q pl_ambleref01_Q trivial trivial ⟨.refl _, .refl _, .refl _, .refl _, trivial⟩ <| .stE ([D.bool false, D.nil, D.bool false, D.nil]) rfl rfl rfl ly_ambleref01_Q rfl rfl rfl <| .asg rfl <| .nil) rfl ?_
              cases h
              refine .retG (fun _ _ hb => hb) rfl (.cons (.agg rfl rfl ly_ambleref01_Q rfl) (.cons (.tmp rfl) .nil)) (.tup ⟨.agg ⟨.refl _, .nilE _, .refl _, .nilE _, trivial⟩, .refl _, trivial⟩) trivial trivial
            · replace h := ite_neg_some c235 h
              refine .cFb rfl c235 ?_
              refine .skip (Ok.on ?_)
              refine .sq ?_
              refine .reg (.mv rfl <| .nil) rfl ?_
              refine .cFb rfl (by decide) ?_
              refine .skip (Ok.on ?_)
              obtain ⟨⟨⟨v236, v237⟩, ⟨v238, v239⟩⟩, e240, h⟩ := bind_some h
              refine .reg (.ldE ([D.bool v231, slcE (Enc.int .i64) v232]) rfl rfl ly_ambleref01_Z rfl rfl <| .ldE ([D.bool v233, slcE (Enc.int .i64) v234]) rfl rfl ly_ambleref01_Z rfl rfl <| .callG (C_r_QOf e240) ⟨rfl, rfl, trivial⟩ trivial trivial <| .stE ([D.bool v236, slcE (Enc.int .i64) v237, D.bool v238, slcE (Enc.int .i64) v239]) rfl rfl rfl ly_ambleref01_Q rfl rfl rfl <| .asg rfl <| .nil) rfl ?_
              cases h
              refine .retG (fun _ _ hb => hb) rfl (.cons (.agg rfl rfl ly_ambleref01_Q rfl) (.cons (.tmp rfl) .nil)) (.refl _) trivial trivial
end
end Go.Am
namespace Go.Am
open Go.RowKit
abbrev denL (d : Nat) (l : List Int) : Prop := l = dg10 d ∨ (d = 1 ∧ l = [])
abbrev rqL (x : Rat) (l : List Int) : D := .agg [.bool (decide (x.num < 0)), slcE (Enc.int .i64) (dg10 x.num.natAbs), .bool false, slcE (Enc.int .i64) l]
theorem rq_open {x : Rat} {ε : Env} {w : World} {S : Reg} {v : Value} (h : (rqD x).p ε w S v) : ∃ l, denL x.den l ∧ (rqL x l).p ε w S v := by
  obtain ⟨cs, e, h1, ha⟩ := h
  rcases cs with _ | ⟨c1, _ | ⟨c2, _ | ⟨c3, _ | ⟨c4, cs⟩⟩⟩⟩
  · exact ha.elim
  · exact ha.2.elim
  · exact ha.2.2.elim
  · exact ha.2.2.2.elim
  · obtain ⟨a1, a2, a3, ⟨l, hl, hp⟩, a5⟩ := ha
    exact ⟨l, hl, _, e, h1, a1, a2, a3, hp, a5⟩
theorem CtrG.any {P : Program} {f : FuncId} {ds : List D} {d : D} {ι : Type} (dsi : ι → List D) (Q : ι → Prop) (i0 : ι) (h0 : Q i0) (h : ∀ i, Q i → CtrG P f [] (dsi i) [] d) (hn : nms ds = nms (dsi i0))
    (hc : ∀ ε w S vs, all2 ε w S ds vs → ∃ i, Q i ∧ all2 ε w S (dsi i) vs) : CtrG P f [] ds [] d where
  ok := (h i0 h0).ok
  nmd := by rw [hn]; exact (h i0 h0).nmd
  nmi := (h i0 h0).nmi
  nmo := (h i0 h0).nmo
  nmr := (h i0 h0).nmr
  keep := (h i0 h0).keep
  calls := by
    intro A w ε φ vs h1 h2 h3 hv
    obtain ⟨i, hq, hv'⟩ := hc _ _ _ _ hv
    exact (h i hq).calls A w ε φ vs h1 h2 h3 hv'
theorem CtrG.rq1 {P : Program} {f : FuncId} {a : Rat} {ds : List D} {d : D} (h : ∀ l, denL a.den l → CtrG P f [] (rqL a l :: ds) [] d) : CtrG P f [] (rqD a :: ds) [] d := by
  refine .any (fun l => rqL a l :: ds) (denL a.den) (dg10 a.den) (.inl rfl) h rfl ?_
  intro ε w S vs hv
  cases vs with
  | nil => exact hv.elim
  | cons v vs =>
    obtain ⟨l, hl, hp⟩ := rq_open hv.1
    exact ⟨l, hl, hp, hv.2⟩
theorem CtrG.rq2 {P : Program} {f : FuncId} {a b : Rat} {ds : List D} {d : D} (h : ∀ l m, denL a.den l → denL b.den m → CtrG P f [] (rqL a l :: rqL b m :: ds) [] d) : CtrG P f [] (rqD a :: rqD b :: ds) [] d := by
  refine .any (fun (x : List Int × List Int) => rqL a x.1 :: rqL b x.2 :: ds) (fun x => denL a.den x.1 ∧ denL b.den x.2) (dg10 a.den, dg10 b.den) ⟨.inl rfl, .inl rfl⟩ (fun x hx => h _ _ hx.1 hx.2) rfl ?_
  intro ε w S vs hv
  cases vs with
  | nil => exact hv.elim
  | cons v vs =>
    cases vs with
    | nil => exact hv.2.elim
    | cons v' vs =>
      obtain ⟨l, hl, hp⟩ := rq_open hv.1
      obtain ⟨m, hm, hp'⟩ := rq_open hv.2.1
      exact ⟨(l, m), ⟨hl, hm⟩, hp, hp', hv.2.2⟩
theorem CtrG.outR {P : Program} {f : FuncId} {ds : List D} {d d' : D} (h : CtrG P f [] ds [] d) (hd : Le d d') : CtrG P f [] ds [] d' := (h.plain.out hd).gen
theorem denD_of {d : Nat} : Le (slcE (Enc.int .i64) (dg10 d)) (denD d) := ⟨fun _ _ _ _ h => ⟨_, .inl rfl, h⟩, fun r hr => by cases hr⟩
theorem rq_close (x : Rat) : Le (rqL x (dg10 x.den)) (rqD x) := .agg ⟨.refl _, .refl _, .refl _, denD_of, trivial⟩
abbrev zz (z : Int) : Bool × List Int := (decide (z < 0), dg10 z.natAbs)
abbrev rr (x : Rat) : (Bool × List Int) × (Bool × List Int) := (zz x.num, (false, dg10 x.den))
theorem den_dg (d : Nat) (h : d ≠ 0) : ((dg10 d).length : Int) ≠ 0 := by
  have : (dg10 d).length ≠ 0 := fun k => h (dg10_len0.1 k)
  omega
theorem one_z : m_r_ZInt 1 = some (false, dg10 1) := ZInt_is 1 (by unfold i64r; omega)
theorem r_Q_den_is (a : Rat) (neg : Bool) (n : List Int) {l : List Int} (h : denL a.den l) : m_r_Q_den neg n false l = some (false, dg10 a.den) := by
  unfold m_r_Q_den
  rcases h with rfl | ⟨h1, rfl⟩
  · rw [if_neg (by rw [beq_iff_eq]; exact den_dg _ a.den_nz)]
  · rw [if_pos (by decide), one_z, h1]; rfl
theorem dg10_small {x : Nat} (h0 : x ≠ 0) (h : x < 10000) : dg10 x = [(x : Int)] := by
  rw [dg10_pos h0, Nat.mod_eq_of_lt h, Nat.div_eq_of_lt h, dg10_zero]
theorem one_test (g : Nat) (h0 : g ≠ 0) : (if (((dg10 g).length : Int) == 1) = true then (ix (dg10 g) 0).bind fun v24 => (if (v24 == 1) = true then some true else some false) else some false) = some (decide (g = 1)) := by
  by_cases h1 : g = 1
  · subst h1
    rw [dg10_small (by decide) (by decide)]; rfl
  · by_cases hl : (((dg10 g).length : Int) == 1) = true
    · rw [if_pos hl]
      have hl2 : (dg10 g).length = 1 := by rw [beq_iff_eq] at hl; omega
      have hlt := dg10_bd g
      rw [hl2] at hlt
      have e : dg10 g = [(g : Int)] := dg10_small h0 (by omega)
      rw [e]
      have : ix [(g : Int)] 0 = some (g : Int) := rfl
      rw [this, Option.bind_some, if_neg (by rw [beq_iff_eq]; omega), decide_eq_false h1]
    · rw [if_neg hl, decide_eq_false h1]
theorem one_sel {α : Type} (g : Nat) (h0 : g ≠ 0) (x y : α) : (if (((dg10 g).length : Int) == 1) = true then (ix (dg10 g) 0).bind fun v24 => (if (v24 == 1) = true then some x else some y) else some y) = some (if g = 1 then x else y) := by
  have h := one_test g h0
  by_cases hl : (((dg10 g).length : Int) == 1) = true
  · rw [if_pos hl] at h ⊢
    obtain ⟨v, e, h⟩ := bind_some h
    rw [e, Option.bind_some]
    by_cases hv : (v == 1) = true
    · rw [if_pos hv] at h ⊢
      injection h with h
      rw [if_pos (of_decide_eq_true h.symm)]
    · rw [if_neg hv] at h ⊢
      injection h with h
      rw [if_neg (of_decide_eq_false h.symm)]
  · rw [if_neg hl] at h ⊢
    injection h with h
    rw [if_neg (of_decide_eq_false h.symm)]
theorem QOf_pos (z : Int) (d : Nat) (hd : d ≠ 0) (hz : sm z.natAbs) (hs : sm d) : m_r_QOf (decide (z < 0)) (dg10 z.natAbs) false (dg10 d) = some (rr (mkRat z d)) := by
  obtain ⟨e1, e2⟩ := quot_parts z d hd
  have hg0 : Nat.gcd z.natAbs d ≠ 0 := fun h => hd (Nat.eq_zero_of_gcd_eq_zero_right h)
  have hgd : Nat.gcd z.natAbs d ∣ d := Nat.gcd_dvd_right _ _
  have hgs : sm (Nat.gcd z.natAbs d) := sm_le (Nat.le_of_dvd (Nat.pos_of_ne_zero hd) hgd) hs
  have hsg := sg_div z _ (Nat.gcd_dvd_left z.natAbs d)
  unfold m_r_QOf
  rw [if_neg (by decide), Option.bind_some]
  dsimp only
  rw [ZGcd_is _ _ _ _ hz hs, Option.bind_some]
  dsimp only
  rw [one_sel _ hg0, Option.bind_some]
  unfold rr zz
  rw [e1, e2]
  generalize Nat.gcd z.natAbs d = g at *
  by_cases h1 : g = 1
  · rw [if_pos h1]
    dsimp only
    subst h1
    rw [Int.natCast_one, Int.ediv_one, Nat.div_one]
  · rw [if_neg h1]
    dsimp only
    rw [over_is _ _ hg0 hz hgs, Option.bind_some, over_is _ _ hg0 hs hgs]
    simp only [Option.bind_some]
    rw [signed_is, hsg]
    simp only [Option.bind_some]
    rw [signed_is, sg_abs]
    have : decide (sg false (d / g) < 0) = false := by unfold sg; rw [if_neg (by decide)]; exact nat_lt0 _
    rw [this]; rfl
theorem QOf_is (z w : Int) (hw : w ≠ 0) (hz : sm z.natAbs) (hs : sm w.natAbs) : m_r_QOf (decide (z < 0)) (dg10 z.natAbs) (decide (w < 0)) (dg10 w.natAbs) = some (rr (Rat.divInt z w)) := by
  by_cases h : w < 0
  · have e : m_r_QOf (decide (z < 0)) (dg10 z.natAbs) (decide (w < 0)) (dg10 w.natAbs) = m_r_QOf (decide (-z < 0)) (dg10 (-z).natAbs) (decide (-w < 0)) (dg10 (-w).natAbs) := by
      unfold m_r_QOf
      rw [if_pos (decide_eq_true h), if_neg (by simp; omega), ZNeg_is, ZNeg_is]
      rfl
    obtain ⟨d, hd⟩ : ∃ d : Nat, -w = (d : Int) := ⟨(-w).toNat, by omega⟩
    have h1 := QOf_pos (-z) d (by omega) (by rw [Int.natAbs_neg]; exact hz) (by rw [← Int.natAbs_neg, hd, Int.natAbs_natCast] at hs; exact hs)
    rw [e, hd, nat_lt0, Int.natAbs_natCast, h1, ← Rat.divInt_ofNat, ← hd, Rat.neg_divInt_neg]
  · obtain ⟨d, rfl⟩ := Int.eq_ofNat_of_zero_le (show 0 ≤ w by omega)
    rw [nat_lt0, Int.natAbs_natCast, QOf_pos z d (by omega) hz hs, ← Rat.divInt_ofNat]
theorem r_Of_is (n d : Int) (h : i64r n) (k : i64r d) (h0 : d ≠ 0) : m_r_Of n d = some (rr ((n : Rat) / (d : Rat))) := by
  unfold m_r_Of
  rw [ZInt_is n h, Option.bind_some]
  dsimp only
  rw [ZInt_is d k, Option.bind_some]
  dsimp only
  rw [QOf_is n d h0 (i64_sm h) (i64_sm k), Rat.divInt_eq_div]; rfl
theorem mul_den (a b : Rat) (z : Int) (hz : sm z.natAbs) (hd : sm b.den) : m_r_ZMul (decide (z < 0)) (dg10 z.natAbs) false (dg10 b.den) = some (zz (z * b.den)) := by
  have := ZMul_is z (b.den : Int) hz (by rw [Int.natAbs_natCast]; exact hd)
  rw [nat_lt0, Int.natAbs_natCast] at this
  exact this
theorem den_den (a b : Rat) (ha : sm a.den) (hb : sm b.den) : m_r_ZMul false (dg10 a.den) false (dg10 b.den) = some (false, dg10 (a.den * b.den)) := by
  have := ZMul_is (a.den : Int) (b.den : Int) (by rw [Int.natAbs_natCast]; exact ha) (by rw [Int.natAbs_natCast]; exact hb)
  rw [nat_lt0, nat_lt0, Int.natAbs_natCast, Int.natAbs_natCast, ← Int.natCast_mul, nat_lt0, Int.natAbs_natCast] at this
  exact this
section
variable {l m : List Int}
theorem r_Add_is (a b : Rat) (h : qw a) (k : qw b) (hl : denL a.den l) (hm : denL b.den m) : m_r_Add (decide (a.num < 0)) (dg10 a.num.natAbs) false l (decide (b.num < 0)) (dg10 b.num.natAbs) false m = some (rr (a + b)) := by
  unfold m_r_Add
  rw [r_Q_den_is a _ _ hl, r_Q_den_is b _ _ hm]
  simp only [Option.bind_some]
  rw [mul_den a b _ (qs_smn h) (qs_smd k)]
  simp only [Option.bind_some]
  rw [mul_den b a _ (qs_smn k) (qs_smd h)]
  simp only [Option.bind_some]
  rw [ZAdd_is _ _ (sm_of (nd_bd h k) (by omega)) (sm_of (nd_bd k h) (by omega))]
  simp only [Option.bind_some]
  rw [den_den a b (qs_smd h) (qs_smd k)]
  simp only [Option.bind_some]
  rw [QOf_pos _ _ (Nat.mul_ne_zero a.den_nz b.den_nz) (sm_of (blen_natAbs_add (nd_bd h k) (nd_bd k h)) (by omega)) (sm_of (dd_bd h k) (by omega)), ← Rat.add_def']
  rfl
theorem r_Mul_is (a b : Rat) (h : qw a) (k : qw b) (hl : denL a.den l) (hm : denL b.den m) : m_r_Mul (decide (a.num < 0)) (dg10 a.num.natAbs) false l (decide (b.num < 0)) (dg10 b.num.natAbs) false m = some (rr (a * b)) := by
  unfold m_r_Mul
  rw [ZMul_is _ _ (qs_smn h) (qs_smn k), r_Q_den_is a _ _ hl, r_Q_den_is b _ _ hm]
  simp only [Option.bind_some]
  rw [den_den a b (qs_smd h) (qs_smd k)]
  simp only [Option.bind_some]
  rw [QOf_pos _ _ (Nat.mul_ne_zero a.den_nz b.den_nz) (sm_of (nn_bd h k) (by omega)) (sm_of (dd_bd h k) (by omega)), ← Rat.mul_def']
  rfl
theorem r_Cmp_is (a b : Rat) (h : qw a) (k : qw b) (hl : denL a.den l) (hm : denL b.den m) : m_r_Cmp (decide (a.num < 0)) (dg10 a.num.natAbs) false l (decide (b.num < 0)) (dg10 b.num.natAbs) false m = some (cmpq a b) := by
  unfold m_r_Cmp
  rw [r_Q_den_is a _ _ hl, r_Q_den_is b _ _ hm]
  simp only [Option.bind_some]
  rw [mul_den a b _ (qs_smn h) (qs_smd k)]
  simp only [Option.bind_some]
  rw [mul_den b a _ (qs_smn k) (qs_smd h)]
  simp only [Option.bind_some]
  rw [ZCmp_is _ _ (sm_of (nd_bd h k) (by omega)) (sm_of (nd_bd k h) (by omega)), cmpq_eq]; rfl
end
end Go.Am
namespace Go.Am
open Go.RowKit
section
variable {l m : List Int}
theorem dR_len1 {d : Nat} (h : (dR d).length = 1) : d < 10 ∧ d ≠ 0 := by
  have h0 : d ≠ 0 := by intro e; subst e; rw [dR_zero] at h; simp at h
  rw [dR_pos h0, List.length_cons] at h
  have h1 : (dR (d / 10)).length = 0 := by omega
  refine ⟨?_, h0⟩
  apply Nat.lt_of_not_le
  intro hc
  have : d / 10 ≠ 0 := by omega
  rw [dR_pos this] at h1; simp at h1
theorem decL_one {d : Nat} (h : d ≠ 0) : (decL d == ([49] : List UInt8)) = decide (d = 1) := by
  by_cases h1 : d = 1
  · subst h1
    have : decL 1 = [49] := by unfold decL; rw [if_neg (by decide), dR_pos (by decide), show (1 : Nat) / 10 = 0 from rfl, dR_zero]; rfl
    rw [this]; rfl
  · rw [decide_eq_false h1, beq_eq_false_iff_ne]
    intro he
    have hl : (dR d).length = 1 := by
      have := congrArg List.length he
      unfold decL bytesOf at this
      rw [if_neg h, List.length_map, List.length_reverse] at this
      exact this
    obtain ⟨h2, _⟩ := dR_len1 hl
    unfold decL at he
    rw [if_neg h, dR_pos h, Nat.div_eq_of_lt h2, dR_zero] at he
    simp only [List.reverse_cons, List.reverse_nil, List.nil_append, bytesOf, List.map_cons, List.map_nil, Int.toNat_natCast] at he
    injection he with he _
    have h3 := congrArg UInt8.toNat he
    rw [UInt8.toNat_ofNat', show (49 : UInt8).toNat = 49 from rfl] at h3
    omega
theorem r_Text_is (a : Rat) (h : qs' a) (hl : denL a.den l) : m_r_Text (decide (a.num < 0)) (dg10 a.num.natAbs) false l = some (txt a) := by
  have h1 : (decL a.num.natAbs).length ≤ 400000000001 := decL_len (sz_le.1 h).1
  have h2 : (decL a.den).length ≤ 400000000001 := decL_len (sz_le.1 h).2
  unfold m_r_Text txt
  rw [ZText_is _ _ (qs_smn (qs_w h)) (fun h0 => decide_eq_false (by omega)), Option.bind_some, r_Q_den_is a _ _ hl, Option.bind_some]
  dsimp only
  rw [ZText_is _ _ (qs_smd (qs_w h)) (fun h0 => rfl), Option.bind_some]
  have e0 : (if (false : Bool) = true then ([45] : List UInt8) else []) ++ decL a.den = decL a.den := by simp
  rw [e0, decL_one a.den_nz]
  have e1 : (if decide (a.num < 0) = true then ([45] : List UInt8) else []) = (if a.num < 0 then [45] else []) := by simp
  rw [e1]
  have h3 : ((if a.num < 0 then [45] else []) ++ decL a.num.natAbs : List UInt8).length ≤ 400000000002 := by
    rw [List.length_append]; split <;> simp only [List.length_cons, List.length_nil] <;> omega
  generalize ((if a.num < 0 then [45] else []) ++ decL a.num.natAbs : List UInt8) = t at *
  by_cases hd : a.den = 1
  · rw [if_pos (decide_eq_true hd), if_pos hd, List.append_nil]
  · rw [if_neg (by simpa using hd), if_neg hd]
    refine must_of (by simp only [List.length_cons, List.length_nil]; omega) (must_of (by simp only [List.length_append, List.length_cons, List.length_nil]; omega) ?_)
    rw [List.append_assoc]; rfl
end
end Go.Am
namespace Go.Am
open Go.RowKit
section
variable {l m : List Int}
theorem nadd (a b : Nat) (ha : sm a) (hb : sm b) : m_r_ZAdd false (dg10 a) false (dg10 b) = some (false, dg10 (a + b)) := by
  have := ZAdd_is (a : Int) (b : Int) (by rw [Int.natAbs_natCast]; exact ha) (by rw [Int.natAbs_natCast]; exact hb)
  rw [← Int.natCast_add, nat_lt0, nat_lt0, nat_lt0, Int.natAbs_natCast, Int.natAbs_natCast, Int.natAbs_natCast] at this
  exact this
theorem nmul (a b : Nat) (ha : sm a) (hb : sm b) : m_r_ZMul false (dg10 a) false (dg10 b) = some (false, dg10 (a * b)) := by
  have := ZMul_is (a : Int) (b : Int) (by rw [Int.natAbs_natCast]; exact ha) (by rw [Int.natAbs_natCast]; exact hb)
  rw [← Int.natCast_mul, nat_lt0, nat_lt0, nat_lt0, Int.natAbs_natCast, Int.natAbs_natCast, Int.natAbs_natCast] at this
  exact this
end
end Go.Am
namespace Go.Am
open Go.RowKit
def rabs (x : Rat) : Rat := if x < 0 then -x else x
def closer (a c b : Rat) : Bool := decide (cmpq (rabs (c - a)) (rabs (b - a)) < 0) || (cmpq (rabs (c - a)) (rabs (b - a)) == 0 && (decide (cmpn c.den b.den < 0) || (cmpn c.den b.den == 0 && decide (cmpq c b < 0))))
def nearS (a : Rat) (n j : Nat) (b : Rat) : Rat := if closer a (mkRat ((a * (n : Int)).floor + (j : Int)) n) b then mkRat ((a * (n : Int)).floor + (j : Int)) n else b
def nearR (a : Rat) : Nat → Rat
  | 0 => (a.floor : Rat)
  | n + 1 => nearS a (n + 1) 1 (nearS a (n + 1) 0 (nearR a n))
theorem sz_mk (z : Int) (d n : Nat) (hd : d ≠ 0) (h1 : blen z.natAbs ≤ n) (h2 : blen d ≤ n) : sz (mkRat z d) ≤ n :=
  sz_le.2 ⟨Nat.le_trans (blen_mono (mk_num_le _ _)) h1, Nat.le_trans (blen_mono (mk_den_le _ _ hd)) h2⟩
theorem sz_rabs (a : Rat) : sz (rabs a) = sz a := by unfold rabs; exact sz_abs a
section
open D
def r_of (n d : Int) : Option Rat := must (i64r n ∧ i64r d ∧ d ≠ 0) (some ((n : Rat) / (d : Rat)))
theorem R_of {a1 : Int} {a2 : Int} {r3 : Rat} (h : r_of a1 a2 = some r3) : CtrG PP 37 [] [D.int .i64 a1, D.int .i64 a2] [] (rqD r3) := by
  obtain ⟨h0, h⟩ := must_some h
  injection h with h; subst h
  exact (C_r_Of (r_Of_is a1 a2 h0.1 h0.2.1 h0.2.2)).outR (rq_close _)
theorem R_add {a1 : Rat} {a2 : Rat} {r3 : Rat} (h : q_add a1 a2 = some r3) : CtrG PP 43 [] [rqD a1, rqD a2] [] (rqD r3) := by
  obtain ⟨h0, h⟩ := must_some h
  injection h with h; subst h
  exact .rq2 fun l m hl hm => (C_r_Add (r_Add_is a1 a2 (qs_w h0.1) (qs_w h0.2) hl hm)).outR (rq_close _)
theorem R_mul {a1 : Rat} {a2 : Rat} {r3 : Rat} (h : q_mul a1 a2 = some r3) : CtrG PP 47 [] [rqD a1, rqD a2] [] (rqD r3) := by
  obtain ⟨h0, h⟩ := must_some h
  injection h with h; subst h
  exact .rq2 fun l m hl hm => (C_r_Mul (r_Mul_is a1 a2 (qs_w h0.1) (qs_w h0.2) hl hm)).outR (rq_close _)
theorem R_cmp {a1 : Rat} {a2 : Rat} {r3 : Int} (h : q_cmp a1 a2 = some r3) : CtrG PP 52 [] [rqD a1, rqD a2] [] (D.int .i64 r3) := by
  obtain ⟨h0, h⟩ := must_some h
  injection h with h; subst h
  exact .rq2 fun l m hl hm => C_r_Cmp (r_Cmp_is a1 a2 (qs_w h0.1) (qs_w h0.2) hl hm)
theorem R_text {a1 : Rat} {r2 : List UInt8} (h : q_text a1 = some r2) : CtrG PP 162 [] [rqD a1] [] (strD r2) := by
  obtain ⟨h0, h⟩ := must_some h
  injection h with h; subst h
  exact .rq1 fun l hl => C_r_Text (r_Text_is a1 h0 hl)
end
end Go.Am
namespace Go.Am
open Go.RowKit
set_option maxRecDepth 100000
noncomputable section
end
end Go.Am
namespace Go.Am
open Go.RowKit
section
variable {l m : List Int}
end
theorem Le.tup2c {a c b : D} (h : Le a c) : Le (.tup [a, b]) (.tup [c, b]) := .tup ⟨h, .refl _, trivial⟩
theorem denD_of' {d : Nat} {l : List Int} (h : denL d l) : Le (slcE (Enc.int .i64) l) (denD d) := ⟨fun _ _ _ _ hp => ⟨_, h, hp⟩, fun r hr => by cases hr⟩
end Go.Am
namespace Go.Proofs
open Go.Shelf
def Tryz.lays160_ren : Go.Shelf.Ren := ⟨fun | 160 => 213 | 232 => 241 | 231 => 240 | 227 => 242 | 234 => 244 | 233 => 243 | 236 => 246 | 235 => 245 | 228 => 258 | 271 => 261 | 151 => 260 | 197 => 259 | 120 => 266 | 152 => 265 | 260 => 264 | 137 => 267 | 119 => 268 | 224 => 256 | 225 => 255 | 217 => 254 | 266 => 262 | n => n, fun | 9 => 9 | 4 => 4 | 3 => 3 | 5 => 5 | 117 => 271 | 116 => 270 | 0 => 0 | 124 => 274 | 21 => 21 | 105 => 283 | 46 => 246 | 119 => 288 | 139 => 291 | 138 => 290 | n => n, fun | 3 => 1 | 4 => 2 | n => n⟩
theorem Tryz.lays160 : Go.Proofs.Lays.n160 Tryz.prog Tryz.lays160_ren := {
  mixed := by kernel_rfl
  f119 := Tryz.func268.trans (congrArg some (by kernel_rfl))
  f120 := Tryz.func266.trans (congrArg some (by kernel_rfl))
  f137 := Tryz.func267.trans (congrArg some (by kernel_rfl))
  f151 := Tryz.func260.trans (congrArg some (by kernel_rfl))
  f152 := Tryz.func265.trans (congrArg some (by kernel_rfl))
  f160 := Tryz.func213.trans (congrArg some (by kernel_rfl))
  f197 := Tryz.func259.trans (congrArg some (by kernel_rfl))
  f217 := Tryz.func254.trans (congrArg some (by kernel_rfl))
  f224 := Tryz.func256.trans (congrArg some (by kernel_rfl))
  f225 := Tryz.func255.trans (congrArg some (by kernel_rfl))
  f227 := Tryz.func242.trans (congrArg some (by kernel_rfl))
  f228 := Tryz.func258.trans (congrArg some (by kernel_rfl))
  f231 := Tryz.func240.trans (congrArg some (by kernel_rfl))
  f232 := Tryz.func241.trans (congrArg some (by kernel_rfl))
  f233 := Tryz.func243.trans (congrArg some (by kernel_rfl))
  f234 := Tryz.func244.trans (congrArg some (by kernel_rfl))
  f235 := Tryz.func245.trans (congrArg some (by kernel_rfl))
  f236 := Tryz.func246.trans (congrArg some (by kernel_rfl))
  f260 := Tryz.func264.trans (congrArg some (by kernel_rfl))
  f266 := Tryz.func262.trans (congrArg some (by kernel_rfl))
  f271 := Tryz.func261.trans (congrArg some (by kernel_rfl))
  t0 := Tryz.underlying0
  a0 := Tryz.isAgg0
  z0 := Tryz.sizeOf0
  v0 := Tryz.zeroValue0
  t3 := Tryz.underlying3
  a3 := Tryz.isAgg3
  z3 := Tryz.sizeOf3
  v3 := Tryz.zeroValue3
  t4 := Tryz.underlying4
  a4 := Tryz.isAgg4
  z4 := Tryz.sizeOf4
  v4 := Tryz.zeroValue4
  t5 := Tryz.underlying5
  a5 := Tryz.isAgg5
  z5 := Tryz.sizeOf5
  v5 := Tryz.zeroValue5
  t9 := Tryz.underlying9
  a9 := Tryz.isAgg9
  z9 := Tryz.sizeOf9
  v9 := Tryz.zeroValue9
  t21 := Tryz.underlying21
  a21 := Tryz.isAgg21
  z21 := Tryz.sizeOf21
  v21 := Tryz.zeroValue21
  t46 := Tryz.underlying246
  a46 := Tryz.isAgg246
  z46 := Tryz.sizeOf246
  v46 := Tryz.zeroValue246
  t105 := Tryz.underlying283
  a105 := Tryz.isAgg283
  z105 := Tryz.sizeOf283
  v105 := Tryz.zeroValue283
  t116 := Tryz.underlying270
  a116 := Tryz.isAgg270
  z116 := Tryz.sizeOf270
  t117 := Tryz.underlying271
  a117 := Tryz.isAgg271
  z117 := Tryz.sizeOf271
  v117 := Tryz.zeroValue271
  t119 := Tryz.underlying288
  a119 := Tryz.isAgg288
  z119 := Tryz.sizeOf288
  t124 := Tryz.underlying274
  a124 := Tryz.isAgg274
  z124 := Tryz.sizeOf274
  v124 := Tryz.zeroValue274
  t138 := Tryz.underlying290
  a138 := Tryz.isAgg290
  z138 := Tryz.sizeOf290
  v138 := Tryz.zeroValue290
  t139 := Tryz.underlying291
  a139 := Tryz.isAgg291
  z139 := Tryz.sizeOf291
  v139 := Tryz.zeroValue291
  g3 := by kernel_rfl
  g4 := by kernel_rfl }
def Tryz.lays219_ren : Go.Shelf.Ren := ⟨fun | 219 => 239 | 217 => 254 | 225 => 255 | 224 => 256 | 267 => 257 | 266 => 262 | 314 => 263 | n => n, fun | 9 => 9 | 3 => 3 | 4 => 4 | 5 => 5 | 46 => 246 | 146 => 275 | 51 => 230 | n => n, fun | 1 => 0 | n => n⟩
theorem Tryz.lays219 : Go.Proofs.Lays.n219 Tryz.prog Tryz.lays219_ren := {
  mixed := by kernel_rfl
  f217 := Tryz.func254.trans (congrArg some (by kernel_rfl))
  f219 := Tryz.func239.trans (congrArg some (by kernel_rfl))
  f224 := Tryz.func256.trans (congrArg some (by kernel_rfl))
  f225 := Tryz.func255.trans (congrArg some (by kernel_rfl))
  f266 := Tryz.func262.trans (congrArg some (by kernel_rfl))
  f267 := Tryz.func257.trans (congrArg some (by kernel_rfl))
  f314 := Tryz.func263.trans (congrArg some (by kernel_rfl))
  t3 := Tryz.underlying3
  a3 := Tryz.isAgg3
  z3 := Tryz.sizeOf3
  v3 := Tryz.zeroValue3
  t4 := Tryz.underlying4
  a4 := Tryz.isAgg4
  z4 := Tryz.sizeOf4
  v4 := Tryz.zeroValue4
  t5 := Tryz.underlying5
  a5 := Tryz.isAgg5
  z5 := Tryz.sizeOf5
  v5 := Tryz.zeroValue5
  t9 := Tryz.underlying9
  a9 := Tryz.isAgg9
  z9 := Tryz.sizeOf9
  v9 := Tryz.zeroValue9
  t46 := Tryz.underlying246
  a46 := Tryz.isAgg246
  z46 := Tryz.sizeOf246
  v46 := Tryz.zeroValue246
  t51 := Tryz.underlying230
  a51 := Tryz.isAgg230
  z51 := Tryz.sizeOf230
  v51 := Tryz.zeroValue230
  t146 := Tryz.underlying275
  a146 := Tryz.isAgg275
  z146 := Tryz.sizeOf275
  v146 := Tryz.zeroValue275
  g1 := by kernel_rfl }
open Go.RowKit Go.Lib in
theorem Tryz.stringslite_Index_one (s : ByteArray) (c : UInt8) (w : World) :
    Calls Tryz.prog 239 #[.string s, .string ⟨#[c]⟩] w fun e w' => e = .returned (.int .i64 (Lib.indexByte s.data.toList c)) ∧ w' = w := Any.stringslite_Index_one Tryz.lays219 s c w
end Go.Proofs
namespace Go.Am
open Go.RowKit
theorem Ctr.ofCalls {P : Program} {f : FuncId} {ss : List (List UInt8)} {d : D} (hok : fnOk P f = true) (hnm : d.nm = []) (v : Value) (hv : ∀ ε w S, d.p ε w S v)
    (h : ∀ w, Calls P f (ss.map fun s => Value.string ⟨s.toArray⟩).toArray w (fun e w' => e = .returned v ∧ Below w.heap.size w w')) : Ctr P f (ss.map strD) d where
  ok := hok
  nms := by
    induction ss with
    | nil => rfl
    | cons s ss ih => exact nms_map (fun _ => rfl) (s :: ss)
  nm := hnm
  calls := by
    intro A w vs hvs
    have e : vs = ss.map fun s => Value.string ⟨s.toArray⟩ := by
      clear h
      induction ss generalizing vs with
      | nil => cases vs with | nil => rfl | cons _ _ => exact hvs.elim
      | cons s ss ih =>
        cases vs with
        | nil => exact hvs.elim
        | cons v vs => rw [List.map_cons, ih vs hvs.2, show v = _ from hvs.1]
    subst e
    exact (h w).mono (fun e w' ⟨h1, h2⟩ => ⟨v, h1, hv _ _ _, h2⟩)
def x_trim (s cut : List UInt8) : Option (List UInt8) := must (s.length ≤ 9223372036854775807 ∧ cut.length < 4294967281 ∧ ∀ b ∈ cut, b.toNat < 128) (some (Lib.trimS s cut))
theorem S_trim {s cut r : List UInt8} (h : x_trim s cut = some r) : CtrG PP 213 [] [strD s, strD cut] [] (strD r) := by
  obtain ⟨⟨h0, h1, h2⟩, h⟩ := must_some h
  injection h with h; subst h
  refine (Ctr.ofCalls (ss := [s, cut]) (by kernel_rfl) rfl (.string ⟨(Lib.trimS s cut).toArray⟩) (fun _ _ _ => rfl) (fun w => ?_)).gen
  exact Go.Proofs.Any.strings_Trim_ascii Go.Proofs.Tryz.lays160 (fun _ => by kernel_rfl) (by kernel_rfl) ⟨s.toArray⟩ ⟨cut.toArray⟩ w h0 h1 (fun j b hj => h2 b (List.mem_of_getElem? hj))
def x_index (s sep : List UInt8) : Option Int := must (sep.length = 1) (some (Lib.indexByte s (sep.getD 0 0)))
theorem S_index {s sep : List UInt8} {r : Int} (h : x_index s sep = some r) : CtrG PP 239 [] [strD s, strD sep] [] (D.int .i64 r) := by
  obtain ⟨h0, h⟩ := must_some h
  injection h with h; subst h
  match sep, h0 with
  | [c], _ =>
    refine (Ctr.ofCalls (ss := [s, [c]]) (by kernel_rfl) rfl (.int .i64 (Lib.indexByte s c)) (fun _ _ _ => rfl) (fun w => ?_)).gen
    exact (Go.Proofs.Tryz.stringslite_Index_one ⟨s.toArray⟩ c w).mono (fun e w' ⟨h1, h2⟩ => ⟨h1, h2 ▸ Below.refl _ _⟩)
end Go.Am
namespace Go.Am
open Go.RowKit
set_option maxRecDepth 100000
noncomputable section
def m_sl_HasPrefix (a1 : List UInt8) (a2 : List UInt8) : Option Bool := (if (decide ((a1.length : Int) ≥ (a2.length : Int))) = true then must ((0 : Int) ≤ (a2.length : Int) ∧ ((a2.length : Int) : Int) ≤ (a1.length : Int)) (some ((List.take (a2.length : Int).toNat a1) == a2)) else some false)
theorem C_sl_HasPrefix {a1 : List UInt8} {a2 : List UInt8} {r5 : Bool} (h : m_sl_HasPrefix a1 a2 = some r5) : CtrG PP 238 [] [strD a1, strD a2] [] (D.bool r5) := by
  unfold m_sl_HasPrefix at h
  refine .of Go.Proofs.Tryz.func238 rfl (by kernel_rfl) rfl rfl rfl rfl rfl rfl (fun A w0 L b => ?_)
  show Ok PP _ [(0, strD a1), (1, strD a2)] [] _ _
  refine .reg (.asg rfl <| .nil) rfl ?_
  by_cases c3 : (decide ((a1.length : Int) ≥ (a2.length : Int))) = true
  · replace h := ite_pos_some c3 h
    obtain ⟨k4, h⟩ := must_some h
    refine .reg (.mv rfl <| .tlen rfl is_string <| .mv rfl <| .tlen rfl is_string <| .cm rfl rfl rfl <| .mv rfl <| .gYt rfl rfl rfl c3 <| .mv rfl <| .gYt rfl rfl rfl c3 <| .mv rfl <| .gYt rfl rfl rfl c3 <| .tlen rfl is_string <| .gYt rfl rfl rfl c3 <| .thi rfl rfl is_string k4.1 k4.2 <| .gYt rfl rfl rfl c3 <| .mv rfl <| .gYt rfl rfl rfl c3 <| .teq rfl rfl <| .pkTb rfl c3 rfl <| .asg rfl <| .nil) rfl ?_
    cases h
    refine .retG (fun _ _ hb => hb) rfl (.cons (.tmp rfl) .nil) (.refl _) trivial trivial
  · replace h := ite_neg_some c3 h
    refine .reg (.mv rfl <| .tlen rfl is_string <| .mv rfl <| .tlen rfl is_string <| .cm rfl rfl rfl <| .mv rfl <| .gNt rfl rfl rfl c3 <| .gNt rfl rfl rfl c3 <| .gNt rfl rfl rfl c3 <| .gNt rfl rfl rfl c3 <| .gNt rfl rfl rfl c3 <| .gNt rfl rfl rfl c3 <| .pkFb rfl c3 rfl <| .asg rfl <| .nil) rfl ?_
    cases h
    refine .retG (fun _ _ hb => hb) rfl (.cons (.tmp rfl) .nil) (.refl _) trivial trivial
def m_sl_CutPrefix (a1 : List UInt8) (a2 : List UInt8) : Option ((List UInt8) × Bool) := (m_sl_HasPrefix a1 a2).bind fun v3 => (if (!v3) = true then some (a1, false) else must ((0 : Int) ≤ (a2.length : Int) ∧ ((a2.length : Int) : Int) ≤ (a1.length : Int)) (some ((List.drop (a2.length : Int).toNat a1), true)))
theorem C_sl_CutPrefix {a1 : List UInt8} {a2 : List UInt8} {r7 : List UInt8} {r8 : Bool} (h : m_sl_CutPrefix a1 a2 = some (r7, r8)) : CtrG PP 209 [] [strD a1, strD a2] [] (D.tup [strD r7, D.bool r8]) := by
  unfold m_sl_CutPrefix at h
  refine .of Go.Proofs.Tryz.func209 rfl (by kernel_rfl) rfl rfl rfl rfl rfl rfl (fun A w0 L b => ?_)
  show Ok PP _ [(0, strD a1), (1, strD a2)] [] _ _
  refine .reg (.asg rfl <| .asg rfl <| .nil) rfl ?_
  refine .sq ?_
  obtain ⟨v3, e4, h⟩ := bind_some h
  refine .reg (.mv rfl <| .mv rfl <| .callG (C_sl_HasPrefix e4) ⟨rfl, rfl, trivial⟩ trivial trivial <| .not rfl <| .nil) rfl ?_
  by_cases c5 : (!v3) = true
  · replace h := ite_pos_some c5 h
    refine .cTb rfl c5 ?_
    refine .reg (.mv rfl <| .asg rfl <| .asg rfl <| .nil) rfl ?_
    cases h
    refine .retG (fun _ _ hb => hb) rfl (.cons (.tmp rfl) (.cons (.tmp rfl) .nil)) (.refl _) trivial trivial
  · replace h := ite_neg_some c5 h
    refine .cFb rfl c5 ?_
    refine .skip (Ok.on ?_)
    obtain ⟨k6, h⟩ := must_some h
    refine .reg (.mv rfl <| .mv rfl <| .tlen rfl is_string <| .tlo rfl rfl is_string k6.1 k6.2 <| .asg rfl <| .asg rfl <| .nil) rfl ?_
    cases h
    refine .retG (fun _ _ hb => hb) rfl (.cons (.tmp rfl) (.cons (.tmp rfl) .nil)) (.refl _) trivial trivial
def m_s_CutPrefix (a1 : List UInt8) (a2 : List UInt8) : Option ((List UInt8) × Bool) := (m_sl_CutPrefix a1 a2).bind fun (v3, v4) => some (v3, v4)
theorem C_s_CutPrefix {a1 : List UInt8} {a2 : List UInt8} {r6 : List UInt8} {r7 : Bool} (h : m_s_CutPrefix a1 a2 = some (r6, r7)) : CtrG PP 144 [] [strD a1, strD a2] [] (D.tup [strD r6, D.bool r7]) := by
  unfold m_s_CutPrefix at h
  refine .of Go.Proofs.Tryz.func144 rfl (by kernel_rfl) rfl rfl rfl rfl rfl rfl (fun A w0 L b => ?_)
  show Ok PP _ [(0, strD a1), (1, strD a2)] [] _ _
  refine .reg (.asg rfl <| .asg rfl <| .nil) rfl ?_
  obtain ⟨⟨v3, v4⟩, e5, h⟩ := bind_some h
  refine .reg (.mv rfl <| .mv rfl <| .callG (C_sl_CutPrefix e5) ⟨rfl, rfl, trivial⟩ trivial trivial <| .ext rfl rfl <| .ext rfl rfl <| .asg rfl <| .asg rfl <| .nil) rfl ?_
  cases h
  refine .retG (fun _ _ hb => hb) rfl (.cons (.tmp rfl) (.cons (.tmp rfl) .nil)) (.refl _) trivial trivial
def m_sl_Cut (a1 : List UInt8) (a2 : List UInt8) : Option ((List UInt8) × (List UInt8) × Bool) := (x_index a1 a2).bind fun v3 => (if (decide (v3 ≥ 0)) = true then must ((0 : Int) ≤ v3 ∧ (v3 : Int) ≤ (a1.length : Int)) (must ((0 : Int) ≤ (IntKind.i64.wrap (v3 + (a2.length : Int))) ∧ ((IntKind.i64.wrap (v3 + (a2.length : Int))) : Int) ≤ (a1.length : Int)) (some ((List.take v3.toNat a1), (List.drop (IntKind.i64.wrap (v3 + (a2.length : Int))).toNat a1), true))) else some (a1, ([] : List UInt8), false))
theorem C_sl_Cut {a1 : List UInt8} {a2 : List UInt8} {r8 : List UInt8} {r9 : List UInt8} {r10 : Bool} (h : m_sl_Cut a1 a2 = some (r8, r9, r10)) : CtrG PP 211 [] [strD a1, strD a2] [] (D.tup [strD r8, strD r9, D.bool r10]) := by
  unfold m_sl_Cut at h
  refine .of Go.Proofs.Tryz.func211 rfl (by kernel_rfl) rfl rfl rfl rfl rfl rfl (fun A w0 L b => ?_)
  show Ok PP _ [(0, strD a1), (1, strD a2)] [] _ _
  refine .reg (.asg rfl <| .asg rfl <| .asg rfl <| .nil) rfl ?_
  refine .sq ?_
  obtain ⟨v3, e4, h⟩ := bind_some h
  refine .reg (.mv rfl <| .mv rfl <| .callG (S_index e4) ⟨rfl, rfl, trivial⟩ trivial trivial <| .asg rfl <| .nil) rfl ?_
  refine .reg (.mv rfl <| .cm rfl rfl rfl <| .nil) rfl ?_
  by_cases c5 : (decide (v3 ≥ 0)) = true
  · replace h := ite_pos_some c5 h
    refine .cTb rfl c5 ?_
    obtain ⟨k6, h⟩ := must_some h
    obtain ⟨k7, h⟩ := must_some h
    refine .regD hmix (.mv rfl <| .mv rfl <| .thi rfl rfl is_string k6.1 k6.2 <| .mv rfl <| .mv rfl <| .mv rfl <| .tlen rfl is_string <| .ar rfl rfl rfl <| .tlo rfl rfl is_string k7.1 k7.2 <| .asg rfl <| .asg rfl <| .asg rfl <| .nil) rfl (by kernel_rfl) ?_
    cases h
    refine .retG (fun _ _ hb => hb) rfl (.cons (.tmp rfl) (.cons (.tmp rfl) (.cons (.tmp rfl) .nil))) (.refl _) trivial trivial
  · replace h := ite_neg_some c5 h
    refine .cFb rfl c5 ?_
    refine .skip (Ok.on ?_)
    refine .reg (.mv rfl <| .asg rfl <| .asg rfl <| .asg rfl <| .nil) rfl ?_
    cases h
    refine .retG (fun _ _ hb => hb) rfl (.cons (.tmp rfl) (.cons (.tmp rfl) (.cons (.tmp rfl) .nil))) (.refl _) trivial trivial
def m_s_Cut (a1 : List UInt8) (a2 : List UInt8) : Option ((List UInt8) × (List UInt8) × Bool) := (m_sl_Cut a1 a2).bind fun (v3, v4, v5) => some (v3, v4, v5)
theorem C_s_Cut {a1 : List UInt8} {a2 : List UInt8} {r7 : List UInt8} {r8 : List UInt8} {r9 : Bool} (h : m_s_Cut a1 a2 = some (r7, r8, r9)) : CtrG PP 146 [] [strD a1, strD a2] [] (D.tup [strD r7, strD r8, D.bool r9]) := by
  unfold m_s_Cut at h
  refine .of Go.Proofs.Tryz.func146 rfl (by kernel_rfl) rfl rfl rfl rfl rfl rfl (fun A w0 L b => ?_)
  show Ok PP _ [(0, strD a1), (1, strD a2)] [] _ _
  refine .reg (.asg rfl <| .asg rfl <| .asg rfl <| .nil) rfl ?_
  obtain ⟨⟨v3, v4, v5⟩, e6, h⟩ := bind_some h
  refine .reg (.mv rfl <| .mv rfl <| .callG (C_sl_Cut e6) ⟨rfl, rfl, trivial⟩ trivial trivial <| .ext rfl rfl <| .ext rfl rfl <| .ext rfl rfl <| .asg rfl <| .asg rfl <| .asg rfl <| .nil) rfl ?_
  cases h
  refine .retG (fun _ _ hb => hb) rfl (.cons (.tmp rfl) (.cons (.tmp rfl) (.cons (.tmp rfl) .nil))) (.refl _) trivial trivial
def m_digits (a1 : List UInt8) : Option Bool := (if (!(a1 == ([] : List UInt8))) = true then (x_trim a1 ([48, 49, 50, 51, 52, 53, 54, 55, 56, 57] : List UInt8)).bind fun v3 => some (v3 == ([] : List UInt8)) else some false)
theorem C_digits {a1 : List UInt8} {r5 : Bool} (h : m_digits a1 = some r5) : CtrG PP 149 [] [strD a1] [] (D.bool r5) := by
  unfold m_digits at h
  refine .of Go.Proofs.Tryz.func149 rfl (by kernel_rfl) rfl rfl rfl rfl rfl rfl (fun A w0 L b => ?_)
  show Ok PP _ [(0, strD a1)] [] _ _
  refine .reg (.asg rfl <| .nil) rfl ?_
  by_cases c2 : (!(a1 == ([] : List UInt8))) = true
  · replace h := ite_pos_some c2 h
    obtain ⟨v3, e4, h⟩ := bind_some h
    refine .reg (.mv rfl <| .tne rfl rfl <| .mv rfl <| .gYt rfl rfl rfl c2 <| .mv rfl <| .gYt rfl rfl rfl c2 <| .callG (S_trim e4) ⟨rfl, rfl, trivial⟩ trivial trivial <| .gYt rfl rfl rfl c2 <| .teq rfl rfl <| .pkTb rfl c2 rfl <| .asg rfl <| .nil) rfl ?_
    cases h
    refine .retG (fun _ _ hb => hb) rfl (.cons (.tmp rfl) .nil) (.refl _) trivial trivial
  · replace h := ite_neg_some c2 h
    refine .reg (.mv rfl <| .tne rfl rfl <| .mv rfl <| .gNt rfl rfl rfl c2 <| .gNt rfl rfl rfl c2 <| .gNt rfl rfl rfl c2 <| .pkFb rfl c2 rfl <| .asg rfl <| .nil) rfl ?_
    cases h
    refine .retG (fun _ _ hb => hb) rfl (.cons (.tmp rfl) .nil) (.refl _) trivial trivial
def m_isInt (a1 : List UInt8) : Option Bool := (m_digits a1).bind fun v2 => (if v2 = true then (if (a1 == ([48] : List UInt8)) = true then some true else (ix a1 0).bind fun v6 => some ((v6.toNat : Int) != 48)) else some false)
theorem C_isInt {a1 : List UInt8} {r8 : Bool} (h : m_isInt a1 = some r8) : CtrG PP 147 [] [strD a1] [] (D.bool r8) := by
  unfold m_isInt at h
  refine .of Go.Proofs.Tryz.func147 rfl (by kernel_rfl) rfl rfl rfl rfl rfl rfl (fun A w0 L b => ?_)
  show Ok PP _ [(0, strD a1)] [] _ _
  refine .reg (.asg rfl <| .nil) rfl ?_
  obtain ⟨v2, e3, h⟩ := bind_some h
  by_cases c4 : v2 = true
  · replace h := ite_pos_some c4 h
    by_cases c5 : (a1 == ([48] : List UInt8)) = true
    · replace h := ite_pos_some c5 h
      refine .reg (.mv rfl <| .callG (C_digits e3) ⟨rfl, trivial⟩ trivial trivial <| .mv rfl <| .gYt rfl rfl rfl c4 <| .mv rfl <| .gYt rfl rfl rfl c4 <| .teq rfl rfl <| .gYt rfl rfl rfl c4 <| .mv rfl <| .gNf rfl rfl rfl c5 <| .gNf rfl rfl rfl c5 <| .gNf rfl rfl rfl c5 <| .gYt rfl rfl rfl c4 <| .pkTb rfl c5 rfl <| .pkTb rfl c4 rfl <| .asg rfl <| .nil) rfl ?_
      cases h
      refine .retG (fun _ _ hb => hb) rfl (.cons (.tmp rfl) .nil) (.refl _) trivial trivial
    · replace h := ite_neg_some c5 h
      obtain ⟨v6, e7, h⟩ := bind_some h
      refine .reg (.mv rfl <| .callG (C_digits e3) ⟨rfl, trivial⟩ trivial trivial <| .mv rfl <| .gYt rfl rfl rfl c4 <| .mv rfl <| .gYt rfl rfl rfl c4 <| .teq rfl rfl <| .gYt rfl rfl rfl c4 <| .mv rfl <| .gYf rfl rfl rfl c5 <| .mv rfl <| .gYf rfl rfl rfl c5 <| .tix rfl rfl is_string (ix_some e7).1 (ix_some e7).2 <| .gYf rfl rfl rfl c5 <| .cm rfl rfl rfl <| .gYt rfl rfl rfl c4 <| .pkFb rfl c5 rfl <| .pkTb rfl c4 rfl <| .asg rfl <| .nil) rfl ?_
      cases h
      refine .retG (fun _ _ hb => hb) rfl (.cons (.tmp rfl) .nil) (.refl _) trivial trivial
  · replace h := ite_neg_some c4 h
    refine .reg (.mv rfl <| .callG (C_digits e3) ⟨rfl, trivial⟩ trivial trivial <| .mv rfl <| .gNt rfl rfl rfl c4 <| .gNt rfl rfl rfl c4 <| .gNt rfl rfl rfl c4 <| .gU rfl rfl <| .gU rfl rfl <| .gU rfl rfl <| .gNt rfl rfl rfl c4 <| .pkFb rfl c4 rfl <| .asg rfl <| .nil) rfl ?_
    cases h
    refine .retG (fun _ _ hb => hb) rfl (.cons (.tmp rfl) .nil) (.refl _) trivial trivial
def m_Parse_l1 (v27 : List UInt8) (v42 : Nat) (v43 : Int) : Option (St (Nat × Int) Nat) := (if (decide (v43 < (v27.length : Int))) = true then (n_of 10).bind fun v49 => (n_mul v42 v49).bind fun v51 => some (St.next (v51, (IntKind.i64.wrap (v43 + 1)))) else some (St.done v42))
def m_Parse (a1 : List UInt8) : Option (((Bool × Nat) × Nat) × Int) := (if (decide ((a1.length : Int) > 1000)) = true then some (((false, 0), 0), 5) else (m_s_CutPrefix a1 ([45] : List UInt8)).bind fun (v3, v4) => (n_of 1).bind fun v6 => ((m_s_Cut v3 ([47] : List UInt8)).bind fun (v10, v11, v12) => (if v12 = true then (m_isInt v10).bind fun v15 => (if (!v15) = true then some (Ex.ret (((false, 0), 0), 4)) else (m_isInt v11).bind fun v18 => (if (!v18) = true then some (Ex.ret (((false, 0), 0), 4)) else (n_text v10).bind fun v21 => (n_text v11).bind fun v23 => (if (((digs v23).length : Int) == 0) = true then some (Ex.ret (((false, 0), 0), 9)) else some (Ex.brk (v21, v23))))) else (m_s_Cut v3 ([46] : List UInt8)).bind fun (v26, v27, v28) => ((m_isInt v26).bind fun v32 => (if (!v32) = true then some (Ex.ret (((false, 0), 0), 4)) else (if v28 = true then (m_digits v27).bind fun v36 => (if (!v36) = true then some (Ex.ret (((false, 0), 0), 4)) else some (Ex.brk ())) else some (Ex.brk ())))).bind fun o30 => (match o30 with | Ex.brk () => must (v26.length + v27.length ≤ 9223372036854775807) ((n_text (v26 ++ v27)).bind fun v40 => (Loop (fun (s : Nat × Int) => m_Parse_l1 v27 s.1 s.2) (v6, 0)).bind fun v53 => some (Ex.brk (v40, v53))) | Ex.ret (((r54, r55), r56), r57) => some (Ex.ret (((r54, r55), r56), r57))))).bind fun o8 => (match o8 with | Ex.brk (v58, v59) => (m_wholeOf v4 v58).bind fun (v60, v61) => (m_quotient v60 v61 v59).bind fun ((v63, v64), v65) => some (((v63, v64), v65), 0) | Ex.ret (((r67, r68), r69), r70) => some (((r67, r68), r69), r70)))
theorem C_Parse {a1 : List UInt8} {r71 : Bool} {r72 : Nat} {r73 : Nat} {r74 : Int} (h : m_Parse a1 = some (((r71, r72), r73), r74)) : CtrG PP 23 [] [strD a1] [] (D.tup [D.agg ([D.bool r71, natD r72, natD r73]), D.int .i64 r74]) := by
  unfold m_Parse at h
  refine .of Go.Proofs.Tryz.func23 rfl (by kernel_rfl) rfl rfl rfl rfl rfl rfl (fun A w0 L b => ?_)
  show Ok PP _ [(0, strD a1)] [] _ _
  refine .reg (.alL ([D.bool false, natD 0, natD 0]) z_exact_Q ⟨.refl _, nil_nat, nil_nat, trivial⟩ rfl <| .asg rfl <| .nil) rfl ?_
  refine .sq ?_
  refine .reg (.mv rfl <| .tlen rfl is_string <| .cm rfl rfl rfl <| .nil) rfl ?_
  by_cases c2 : (decide ((a1.length : Int) > 1000)) = true
  · replace h := ite_pos_some c2 h
    refine .cTb rfl c2 ?_
    refine .reg (.bdQ ([D.bool false, natD 0, natD 0]) [] z_exact_Q pl_exact_Q trivial trivial ⟨.refl _, nil_nat, nil_nat, trivial⟩ <| .stE ([D.bool false, natD 0, natD 0]) rfl rfl rfl ly_exact_Q rfl rfl rfl <| .asg rfl <| .nil) rfl ?_
    cases h
    refine .retG (fun _ _ hb => hb) rfl (.cons (.agg rfl rfl ly_exact_Q rfl) (.cons (.tmp rfl) .nil)) (.refl _) trivial trivial
  · replace h := ite_neg_some c2 h
    refine .cFb rfl c2 ?_
    refine .skip (Ok.on ?_)
    obtain ⟨⟨v3, v4⟩, e5, h⟩ := bind_some h
    refine .reg (.mv rfl <| .callG (C_s_CutPrefix e5) ⟨rfl, rfl, trivial⟩ trivial trivial <| .mv rfl <| .ext rfl rfl <| .ext rfl rfl <| .asg rfl <| .asg rfl <| .nil) rfl ?_
    obtain ⟨v6, e7, h⟩ := bind_some h
    refine .reg (.callG (N_of e7) ⟨rfl, trivial⟩ trivial trivial <| .asg rfl <| .asg rfl <| .nil) rfl ?_
    obtain ⟨o8, hp9, h⟩ := bind_some h
    refine .cutX (fun i => o8 = Ex.brk i) (fun (i : Nat × Nat) => [(2, D.ref 2 0), (4, D.bool v4), (5, natD i.1), (6, natD i.2)]) (fun (i : Nat × Nat) => [(2, Hp.box 28 ([D.bool false, natD 0, natD 0]))]) ?_ ?_
    · have ho1 := h
      clear h
      have h := hp9
      clear hp9
      obtain ⟨⟨v10, v11, v12⟩, e13, h⟩ := bind_some h
      refine .reg (.mv rfl <| .callG (C_s_Cut e13) ⟨rfl, rfl, trivial⟩ trivial trivial <| .mv rfl <| .ext rfl rfl <| .ext rfl rfl <| .ext rfl rfl <| .asg rfl <| .asg rfl <| .asg rfl <| .nil) rfl ?_
      refine .reg (.mv rfl <| .nil) rfl ?_
      by_cases c14 : v12 = true
      · replace h := ite_pos_some c14 h
        refine .cTb rfl c14 ?_
        refine .sq ?_
        obtain ⟨v15, e16, h⟩ := bind_some h
        by_cases c17 : (!v15) = true
        · replace h := ite_pos_some c17 h
          refine .reg (.mv rfl <| .callG (C_isInt e16) ⟨rfl, trivial⟩ trivial trivial <| .not rfl <| .mv rfl <| .gNf rfl rfl rfl c17 <| .gNf rfl rfl rfl c17 <| .gNf rfl rfl rfl c17 <| .pkTb rfl c17 rfl <| .nil) rfl ?_
          refine .cTb rfl rfl ?_
          refine .reg (.bdQ ([D.bool false, natD 0, natD 0]) [] z_exact_Q pl_exact_Q trivial trivial ⟨.refl _, nil_nat, nil_nat, trivial⟩ <| .stE ([D.bool false, natD 0, natD 0]) rfl rfl rfl ly_exact_Q rfl rfl rfl <| .asg rfl <| .nil) rfl ?_
          cases h
          have h := ho1
          clear ho1
          cases h
          refine .retG (fun _ _ hb => hb) rfl (.cons (.agg rfl rfl ly_exact_Q rfl) (.cons (.tmp rfl) .nil)) (.refl _) trivial trivial
        · replace h := ite_neg_some c17 h
          obtain ⟨v18, e19, h⟩ := bind_some h
          refine .reg (.mv rfl <| .callG (C_isInt e16) ⟨rfl, trivial⟩ trivial trivial <| .not rfl <| .mv rfl <| .gYf rfl rfl rfl c17 <| .mv rfl <| .gYf rfl rfl rfl c17 <| .callG (C_isInt e19) ⟨rfl, trivial⟩ trivial trivial <| .gYf rfl rfl rfl c17 <| .not rfl <| .pkFb rfl c17 rfl <| .nil) rfl ?_
          by_cases c20 : (!v18) = true
          · replace h := ite_pos_some c20 h
            refine .cTb rfl c20 ?_
            refine .reg (.bdQ ([D.bool false, natD 0, natD 0]) [] z_exact_Q pl_exact_Q trivial trivial ⟨.refl _, nil_nat, nil_nat, trivial⟩ <| .stE ([D.bool false, natD 0, natD 0]) rfl rfl rfl ly_exact_Q rfl rfl rfl <| .asg rfl <| .nil) rfl ?_
            cases h
            have h := ho1
            clear ho1
            cases h
            refine .retG (fun _ _ hb => hb) rfl (.cons (.agg rfl rfl ly_exact_Q rfl) (.cons (.tmp rfl) .nil)) (.refl _) trivial trivial
          · replace h := ite_neg_some c20 h
            refine .cFb rfl c20 ?_
            refine .skip (Ok.on ?_)
            obtain ⟨v21, e22, h⟩ := bind_some h
            obtain ⟨v23, e24, h⟩ := bind_some h
            refine .reg (.mv rfl <| .callG (N_text e22) ⟨rfl, trivial⟩ trivial trivial <| .mv rfl <| .callG (N_text e24) ⟨rfl, trivial⟩ trivial trivial <| .asg rfl <| .asg rfl <| .nil) rfl ?_
            refine .reg (.mv rfl <| .lnD rfl is_exact_nat <| .cm rfl rfl rfl <| .nil) rfl ?_
            by_cases c25 : (((digs v23).length : Int) == 0) = true
            · replace h := ite_pos_some c25 h
              refine .cTb rfl c25 ?_
              refine .reg (.bdQ ([D.bool false, natD 0, natD 0]) [] z_exact_Q pl_exact_Q trivial trivial ⟨.refl _, nil_nat, nil_nat, trivial⟩ <| .stE ([D.bool false, natD 0, natD 0]) rfl rfl rfl ly_exact_Q rfl rfl rfl <| .asg rfl <| .nil) rfl ?_
              cases h
              have h := ho1
              clear ho1
              cases h
              refine .retG (fun _ _ hb => hb) rfl (.cons (.agg rfl rfl ly_exact_Q rfl) (.cons (.tmp rfl) .nil)) (.refl _) trivial trivial
            · replace h := ite_neg_some c25 h
              refine .cFb rfl c25 ?_
              refine .skip (fun _ _ hs => ⟨(v21, v23), (Option.some.inj h).symm, hs.sub ⟨⟨_, rfl, .refl _⟩, ⟨_, rfl, .refl _⟩, ⟨_, rfl, .refl _⟩, ⟨_, rfl, .refl _⟩, trivial⟩ ⟨⟨_, rfl, .refl _⟩, trivial⟩ rfl rfl⟩)
      · replace h := ite_neg_some c14 h
        refine .cFb rfl c14 ?_
        obtain ⟨⟨v26, v27, v28⟩, e29, h⟩ := bind_some h
        refine .reg (.mv rfl <| .callG (C_s_Cut e29) ⟨rfl, rfl, trivial⟩ trivial trivial <| .mv rfl <| .ext rfl rfl <| .ext rfl rfl <| .ext rfl rfl <| .asg rfl <| .asg rfl <| .asg rfl <| .nil) rfl ?_
        obtain ⟨o30, hp31, h⟩ := bind_some h
        refine .cutX (fun i => o30 = Ex.brk i) (fun (i : Unit) => [(2, D.ref 2 0), (4, D.bool v4), (6, natD v6), (10, strD v26), (11, strD v27)]) (fun (i : Unit) => [(2, Hp.box 28 ([D.bool false, natD 0, natD 0]))]) ?_ ?_
        · have ho2 := h
          clear h
          have h := hp31
          clear hp31
          obtain ⟨v32, e33, h⟩ := bind_some h
          by_cases c34 : (!v32) = true
          · replace h := ite_pos_some c34 h
            refine .reg (.mv rfl <| .callG (C_isInt e33) ⟨rfl, trivial⟩ trivial trivial <| .not rfl <| .mv rfl <| .gNf rfl rfl rfl c34 <| .gNf rfl rfl rfl c34 <| .gU rfl rfl <| .gU rfl rfl <| .gU rfl rfl <| .gNf rfl rfl rfl c34 <| .pkTb rfl c34 rfl <| .nil) rfl ?_
            refine .cTb rfl rfl ?_
            refine .reg (.bdQ ([D.bool false, natD 0, natD 0]) [] z_exact_Q pl_exact_Q trivial trivial ⟨.refl _, nil_nat, nil_nat, trivial⟩ <| .stE ([D.bool false, natD 0, natD 0]) rfl rfl rfl ly_exact_Q rfl rfl rfl <| .asg rfl <| .nil) rfl ?_
            cases h
            have h := ho2
            clear ho2
            cases h
            have h := ho1
            clear ho1
            cases h
            refine .retG (fun _ _ hb => hb) rfl (.cons (.agg rfl rfl ly_exact_Q rfl) (.cons (.tmp rfl) .nil)) (.refl _) trivial trivial
          · replace h := ite_neg_some c34 h
            by_cases c35 : v28 = true
            · replace h := ite_pos_some c35 h
              obtain ⟨v36, e37, h⟩ := bind_some h
              refine .reg (.mv rfl <| .callG (C_isInt e33) ⟨rfl, trivial⟩ trivial trivial <| .not rfl <| .mv rfl <| .gYf rfl rfl rfl c34 <| .mv rfl <| .gYf rfl rfl rfl c34 <| .mv rfl <| .gYt rfl rfl rfl c35 <| .mv rfl <| .gYt rfl rfl rfl c35 <| .callG (C_digits e37) ⟨rfl, trivial⟩ trivial trivial <| .gYt rfl rfl rfl c35 <| .not rfl <| .gYf rfl rfl rfl c34 <| .pkTb rfl c35 rfl <| .pkFb rfl c34 rfl <| .nil) rfl ?_
              by_cases c38 : (!v36) = true
              · replace h := ite_pos_some c38 h
                refine .cTb rfl c38 ?_
                refine .reg (.bdQ ([D.bool false, natD 0, natD 0]) [] z_exact_Q pl_exact_Q trivial trivial ⟨.refl _, nil_nat, nil_nat, trivial⟩ <| .stE ([D.bool false, natD 0, natD 0]) rfl rfl rfl ly_exact_Q rfl rfl rfl <| .asg rfl <| .nil) rfl ?_
                cases h
                have h := ho2
                clear ho2
                cases h
                have h := ho1
                clear ho1
                cases h
                refine .retG (fun _ _ hb => hb) rfl (.cons (.agg rfl rfl ly_exact_Q rfl) (.cons (.tmp rfl) .nil)) (.refl _) trivial trivial
              · replace h := ite_neg_some c38 h
                refine .cFb rfl c38 ?_
                refine .skip (fun _ _ hs => ⟨(), (Option.some.inj h).symm, hs.sub ⟨⟨_, rfl, .refl _⟩, ⟨_, rfl, .refl _⟩, ⟨_, rfl, .refl _⟩, ⟨_, rfl, .refl _⟩, ⟨_, rfl, .refl _⟩, trivial⟩ ⟨⟨_, rfl, .refl _⟩, trivial⟩ rfl rfl⟩)
            · replace h := ite_neg_some c35 h
              refine .reg (.mv rfl <| .callG (C_isInt e33) ⟨rfl, trivial⟩ trivial trivial <| .not rfl <| .mv rfl <| .gYf rfl rfl rfl c34 <| .mv rfl <| .gYf rfl rfl rfl c34 <| .mv rfl <| .gNt rfl rfl rfl c35 <| .gNt rfl rfl rfl c35 <| .gNt rfl rfl rfl c35 <| .gYf rfl rfl rfl c34 <| .pkFb rfl c35 rfl <| .pkFb rfl c34 rfl <| .nil) rfl ?_
              refine .cFb rfl (by decide) ?_
              refine .skip (fun _ _ hs => ⟨(), (Option.some.inj h).symm, hs.sub ⟨⟨_, rfl, .refl _⟩, ⟨_, rfl, .refl _⟩, ⟨_, rfl, .refl _⟩, ⟨_, rfl, .refl _⟩, ⟨_, rfl, .refl _⟩, trivial⟩ ⟨⟨_, rfl, .refl _⟩, trivial⟩ rfl rfl⟩)
        · rintro ⟨⟩ rfl
          show Ok PP _ [(2, D.ref 2 0), (4, D.bool v4), (6, natD v6), (10, strD v26), (11, strD v27)] [(2, Hp.box 28 ([D.bool false, natD 0, natD 0]))] _ _
          obtain ⟨k39, h⟩ := must_some h
          obtain ⟨v40, e41, h⟩ := bind_some h
          refine .reg (.mv rfl <| .mv rfl <| .tcat rfl rfl k39 <| .callG (N_text e41) ⟨rfl, trivial⟩ trivial trivial <| .asg rfl <| .nil) rfl ?_
          refine .reg (.mv rfl <| .tlen rfl is_string <| .mv rfl <| .nil) rfl ?_
          obtain ⟨o44, hl45, h⟩ := bind_some h
          have ho2 := h
          clear h
          refine .block (.loopL (fun (s : Nat × Int) => [(2, D.ref 2 0), (4, D.bool v4), (5, natD v40), (6, natD s.1), (70, D.int .i64 (v27.length : Int)), (71, D.int .i64 s.2)]) (fun (s : Nat × Int) => [(2, Hp.box 28 ([D.bool false, natD 0, natD 0]))]) hl45 ⟨⟨_, rfl, .refl _⟩, ⟨_, rfl, .refl _⟩, ⟨_, rfl, .refl _⟩, ⟨_, rfl, .refl _⟩, ⟨_, rfl, .refl _⟩, ⟨_, rfl, .refl _⟩, trivial⟩ ⟨⟨_, rfl, .refl _⟩, trivial⟩ rfl rfl ?_)
          rintro ⟨v42, v43⟩ st46 hb47
          have h : m_Parse_l1 v27 v42 v43 = some st46 := hb47
          clear hb47
          unfold m_Parse_l1 at h
          show Ok PP _ [(2, D.ref 2 0), (4, D.bool v4), (5, natD v40), (6, natD v42), (70, D.int .i64 (v27.length : Int)), (71, D.int .i64 v43)] [(2, Hp.box 28 ([D.bool false, natD 0, natD 0]))] _ _
          refine .reg (.cm rfl rfl rfl <| .nil) rfl ?_
          refine .sq ?_
          by_cases c48 : (decide (v43 < (v27.length : Int))) = true
          · replace h := ite_pos_some c48 h
            refine .cTb rfl c48 ?_
            refine .skip (Ok.on ?_)
            refine .sq ?_
            refine .block ?_
            obtain ⟨v49, e50, h⟩ := bind_some h
            obtain ⟨v51, e52, h⟩ := bind_some h
            refine .region (.mv rfl <| .callG (N_of e50) ⟨rfl, trivial⟩ trivial trivial <| .callG (N_mul e52) ⟨rfl, rfl, trivial⟩ trivial trivial <| .asg rfl <| .nil) rfl (Ok.on ?_)
            refine .region (.ar rfl rfl rfl <| .mv rfl <| .nil) rfl (fun _ _ hs => ⟨(v51, (IntKind.i64.wrap (v43 + 1))), (Option.some.inj h).symm, hs.sub ⟨⟨_, rfl, .refl _⟩, ⟨_, rfl, .refl _⟩, ⟨_, rfl, .refl _⟩, ⟨_, rfl, .refl _⟩, ⟨_, rfl, .refl _⟩, ⟨_, rfl, .refl _⟩, trivial⟩ ⟨⟨_, rfl, .refl _⟩, trivial⟩ rfl rfl⟩)
          · replace h := ite_neg_some c48 h
            refine .cFb rfl c48 ?_
            refine .exit (fun a w hs => ⟨_, (Option.some.inj h).symm, fun e => by subst e; have h := ho2; exact blk_exit (⟨(v40, v42), (Option.some.inj h).symm, hs.sub ⟨⟨_, rfl, .refl _⟩, ⟨_, rfl, .refl _⟩, ⟨_, rfl, .refl _⟩, ⟨_, rfl, .refl _⟩, trivial⟩ ⟨⟨_, rfl, .refl _⟩, trivial⟩ rfl rfl⟩)⟩)
    · rintro ⟨v58, v59⟩ rfl
      show Ok PP _ [(2, D.ref 2 0), (4, D.bool v4), (5, natD v58), (6, natD v59)] [(2, Hp.box 28 ([D.bool false, natD 0, natD 0]))] _ _
      obtain ⟨⟨v60, v61⟩, e62, h⟩ := bind_some h
      obtain ⟨⟨⟨v63, v64⟩, v65⟩, e66, h⟩ := bind_some h
      refine .reg (.mv rfl <| .mv rfl <| .callG (C_wholeOf e62) ⟨rfl, rfl, trivial⟩ trivial trivial <| .mv rfl <| .callG (C_quotient e66) ⟨rfl, rfl, trivial⟩ trivial trivial <| .stE ([D.bool v63, natD v64, natD v65]) rfl rfl rfl ly_exact_Q rfl rfl rfl <| .asg rfl <| .nil) rfl ?_
      cases h
      refine .retG (fun _ _ hb => hb) rfl (.cons (.agg rfl rfl ly_exact_Q rfl) (.cons (.tmp rfl) .nil)) (.refl _) trivial trivial
end
end Go.Am
namespace Go.Am
open Go.RowKit
def dig (s : List UInt8) : Bool := !s.isEmpty && s.all fun b => decide (48 ≤ b.toNat) && decide (b.toNat ≤ 57)
def intT (s : List UInt8) : Bool := dig s && (s == [48] || !(s.head? == some 48))
def cutB (c : UInt8) : List UInt8 → List UInt8 × List UInt8 × Bool
  | [] => ([], [], false)
  | b :: l => if b = c then ([], l, true) else (b :: (cutB c l).1, (cutB c l).2.1, (cutB c l).2.2)
theorem dig_decs {s : List UInt8} (h : dig s = true) : decs s ∧ s ≠ [] := by
  unfold dig at h
  rw [Bool.and_eq_true] at h
  refine ⟨fun b hb => ?_, fun e => by rw [e] at h; simp at h⟩
  have := List.all_eq_true.1 h.2 b hb
  simp only [Bool.and_eq_true, decide_eq_true_eq] at this
  exact this
theorem cutB_len (c : UInt8) : ∀ l, (cutB c l).1.length + (cutB c l).2.1.length ≤ l.length
  | [] => Nat.le_refl _
  | b :: l => by
    have := cutB_len c l
    unfold cutB
    split
    · simp only [List.length_nil, List.length_cons]; omega
    · simp only [List.length_cons]; omega
theorem cutB_not (c : UInt8) : ∀ l, (cutB c l).2.2 = false → cutB c l = (l, [], false)
  | [], _ => rfl
  | b :: l, h => by
    unfold cutB at h ⊢
    by_cases e : b = c
    · rw [if_pos e] at h; cases h
    · rw [if_neg e] at h ⊢
      rw [cutB_not c l h]
theorem dropWhile_nil {α : Type} (p : α → Bool) : ∀ (l : List α), l.dropWhile p = [] ↔ ∀ x ∈ l, p x = true
  | [] => by simp
  | a :: l => by
    by_cases h : p a = true
    · rw [List.dropWhile_cons_of_pos h, dropWhile_nil p l]; simp [h]
    · rw [List.dropWhile_cons_of_neg h]; simp [h]
theorem dropWhile_head {α : Type} (p : α → Bool) : ∀ (l : List α) (x : α) (m : List α), l.dropWhile p = x :: m → ¬ p x = true
  | [], x, m, h => by cases h
  | a :: l, x, m, h => by
    by_cases hp : p a = true
    · rw [List.dropWhile_cons_of_pos hp] at h; exact dropWhile_head p l x m h
    · rw [List.dropWhile_cons_of_neg hp] at h; injection h with h1 h2; subst h1; exact hp
theorem trimS_nil (l cs : List UInt8) : Lib.trimS l cs = [] ↔ ∀ b ∈ l, cs.contains b = true := by
  unfold Lib.trimS Lib.trimLeftS Lib.trimRightS
  rw [dropWhile_nil]
  have hr := dropWhile_nil (cs.contains ·) l.reverse
  constructor
  · intro h
    cases e : l.reverse.dropWhile (cs.contains ·) with
    | nil =>
      rw [e] at hr
      intro b hb
      exact hr.1 rfl b (List.mem_reverse.2 hb)
    | cons x m =>
      exfalso
      refine dropWhile_head _ _ _ _ e (h x ?_)
      rw [e]; simp
  · intro h
    have : l.reverse.dropWhile (cs.contains ·) = [] := hr.2 fun b hb => h b (List.mem_reverse.1 hb)
    rw [this]; simp
theorem digit_in (b : UInt8) : ([48, 49, 50, 51, 52, 53, 54, 55, 56, 57] : List UInt8).contains b = (decide (48 ≤ b.toNat) && decide (b.toNat ≤ 57)) := by
  have key : ∀ n : Nat, n < 256 → ([48, 49, 50, 51, 52, 53, 54, 55, 56, 57] : List UInt8).contains (UInt8.ofNat n) = (decide (48 ≤ n) && decide (n ≤ 57)) := by decide +kernel
  have := key b.toNat b.toNat_lt
  rw [UInt8.ofNat_toNat] at this
  exact this
theorem digits_is (s : List UInt8) (hl : s.length ≤ 1000000) : m_digits s = some (dig s) := by
  unfold m_digits dig
  cases s with
  | nil => rfl
  | cons a t =>
    have h1 : (!((a :: t) == ([] : List UInt8))) = true := rfl
    rw [if_pos h1]
    have h2 : x_trim (a :: t) ([48, 49, 50, 51, 52, 53, 54, 55, 56, 57] : List UInt8) = some (Lib.trimS (a :: t) [48, 49, 50, 51, 52, 53, 54, 55, 56, 57]) := must_of ⟨by omega, by decide, by decide⟩ rfl
    rw [h2, Option.bind_some]
    congr 1
    have h3 := trimS_nil (a :: t) [48, 49, 50, 51, 52, 53, 54, 55, 56, 57]
    simp only [digit_in] at h3
    have h4 : (!(a :: t).isEmpty) = true := rfl
    rw [h4, Bool.true_and]
    by_cases e : Lib.trimS (a :: t) [48, 49, 50, 51, 52, 53, 54, 55, 56, 57] = []
    · rw [e, List.all_eq_true.2 (h3.1 e)]; rfl
    · have h5 : ((a :: t).all fun b => decide (48 ≤ b.toNat) && decide (b.toNat ≤ 57)) = false := by
        apply Bool.eq_false_iff.2
        intro h; exact e (h3.2 (List.all_eq_true.1 h))
      rw [h5, beq_eq_false_iff_ne]; exact e
theorem isInt_is (s : List UInt8) (hl : s.length ≤ 1000000) : m_isInt s = some (intT s) := by
  unfold m_isInt intT
  rw [digits_is s hl, Option.bind_some]
  by_cases hd : dig s = true
  · rw [if_pos hd, hd, Bool.true_and]
    by_cases h0 : (s == ([48] : List UInt8)) = true
    · rw [if_pos h0, h0]; rfl
    · rw [if_neg h0]
      have h0' : (s == ([48] : List UInt8)) = false := by simpa using h0
      rw [h0', Bool.false_or]
      obtain ⟨_, hne⟩ := dig_decs hd
      cases s with
      | nil => exact absurd rfl hne
      | cons a t =>
        have : ix (a :: t) 0 = some a := rfl
        rw [this, Option.bind_some, List.head?_cons]
        congr 1
        by_cases e : a = 48
        · subst e; rfl
        · have h1 : ((a.toNat : Int) != 48) = true := by
            rw [bne_iff_ne]
            intro h
            apply e
            apply UInt8.toNat_inj.1
            rw [show (48 : UInt8).toNat = 48 from rfl]; omega
          have h2 : ((some a == some (48 : UInt8))) = false := by
            rw [beq_eq_false_iff_ne]; intro h; injection h with h; exact e h
          rw [h1, h2]; rfl
  · rw [if_neg hd]
    have : dig s = false := by simpa using hd
    rw [this]; rfl
theorem cut_idx (c : UInt8) : ∀ l, (cutB c l = if Lib.indexByte l c = -1 then (l, [], false) else (l.take (Lib.indexByte l c).toNat, l.drop ((Lib.indexByte l c).toNat + 1), true)) ∧ -1 ≤ Lib.indexByte l c ∧ Lib.indexByte l c < (l.length : Int)
  | [] => by simp [cutB, Lib.indexByte]
  | b :: l => by
    obtain ⟨h1, h2, h3⟩ := cut_idx c l
    have hv : Lib.indexByte (b :: l) c = if b == c then 0 else if Lib.indexByte l c == -1 then -1 else Lib.indexByte l c + 1 := rfl
    rw [hv]
    unfold cutB
    by_cases e : b = c
    · have e' : (b == c) = true := by simpa using e
      rw [if_pos e, if_pos e']
      refine ⟨?_, by omega, by simp only [List.length_cons]; omega⟩
      rw [if_neg (by decide)]; rfl
    · have e' : ¬ (b == c) = true := by simpa using e
      rw [if_neg e, if_neg e', h1]
      by_cases h0 : Lib.indexByte l c = -1
      · have h0' : (Lib.indexByte l c == -1) = true := by simpa using h0
        rw [if_pos h0', if_pos h0, if_pos rfl]
        exact ⟨rfl, by omega, by simp only [List.length_cons]; omega⟩
      · have h0' : ¬ (Lib.indexByte l c == -1) = true := by simpa using h0
        rw [if_neg h0', if_neg h0, if_neg (by omega)]
        have h4 : (Lib.indexByte l c + 1).toNat = (Lib.indexByte l c).toNat + 1 := by omega
        refine ⟨?_, by omega, by simp only [List.length_cons]; omega⟩
        rw [h4]; rfl
theorem Cut_is (s : List UInt8) (c : UInt8) (hl : s.length ≤ 1000000) : m_s_Cut s [c] = some (cutB c s) := by
  obtain ⟨h1, h2, h3⟩ := cut_idx c s
  unfold m_s_Cut m_sl_Cut
  have hx : x_index s [c] = some (Lib.indexByte s c) := must_of rfl rfl
  rw [hx, h1]
  simp only [Option.bind_some]
  by_cases h0 : Lib.indexByte s c = -1
  · rw [if_neg (by rw [h0]; decide), if_pos h0]; rfl
  · rw [if_pos (decide_eq_true (by omega)), if_neg h0]
    have e : IntKind.i64.wrap (Lib.indexByte s c + (([c] : List UInt8).length : Int)) = Lib.indexByte s c + 1 := i64_in (by simp only [List.length_cons, List.length_nil]; omega)
    rw [e, must_eq (by omega), must_eq (by omega)]
    have h4 : (Lib.indexByte s c + 1).toNat = (Lib.indexByte s c).toNat + 1 := by omega
    rw [h4]; rfl
theorem CutMinus_is (s : List UInt8) (hl : s.length ≤ 1000000) : m_s_CutPrefix s [45] = some (if s.head? = some 45 then (s.drop 1, true) else (s, false)) := by
  unfold m_s_CutPrefix m_sl_CutPrefix m_sl_HasPrefix
  cases s with
  | nil => rfl
  | cons a t =>
    rw [if_pos (decide_eq_true (by simp only [List.length_cons, List.length_nil]; omega)), must_eq (by simp only [List.length_cons, List.length_nil]; omega)]
    simp only [Option.bind_some]
    have h1 : (List.take ((([45] : List UInt8).length : Nat) : Int).toNat (a :: t) == ([45] : List UInt8)) = (a == 45) := by
      show ([a] == [45]) = (a == 45)
      by_cases e : a = 45
      · subst e; rfl
      · have h2 : (a == 45) = false := by simpa using e
        rw [h2, beq_eq_false_iff_ne]; intro h; injection h with h; exact e h
    rw [h1]
    by_cases e : a = 45
    · subst e
      rw [if_neg (by decide), must_eq (by simp only [List.length_cons, List.length_nil]; omega), if_pos (show (45 :: t).head? = some 45 from rfl)]; rfl
    · have h2 : (a == 45) = false := by simpa using e
      have h3 : ¬ (a :: t).head? = some 45 := by intro h; injection h with h; exact e h
      rw [h2, if_neg h3]; rfl
def parseU (neg : Bool) (t : List UInt8) : Rat × Int :=
  if (cutB 47 t).2.2 then
    if !intT (cutB 47 t).1 then (0, 4) else if !intT (cutB 47 t).2.1 then (0, 4) else if decv (cutB 47 t).2.1 = 0 then (0, 9) else (mkRat (sg neg (decv (cutB 47 t).1)) (decv (cutB 47 t).2.1), 0)
  else if !intT (cutB 46 t).1 then (0, 4) else if (cutB 46 t).2.2 && !dig (cutB 46 t).2.1 then (0, 4)
  else (mkRat (sg neg (decv ((cutB 46 t).1 ++ (cutB 46 t).2.1))) (10 ^ (cutB 46 t).2.1.length), 0)
def parseQ (s : List UInt8) : Rat × Int := if 1000 < s.length then (0, 5) else if s.head? = some 45 then parseU true (s.drop 1) else parseU false s
theorem tens_is (a : List UInt8) (hl : a.length ≤ 1000) : Loop (fun (s : Nat × Int) => m_Parse_l1 a s.1 s.2) (1, 0) = some (10 ^ a.length) := by
  have hb : ∀ i, i ≤ 1000 → sm (10 ^ i) := by
    intro i hi
    have h1 : 10 ^ i < 2 ^ (4 * i + 1) := Nat.lt_of_le_of_lt (Nat.pow_le_pow_left (show 10 ≤ 16 by decide) i) (by rw [show (16 : Nat) = 2 ^ 4 from rfl, ← Nat.pow_mul]; exact Nat.pow_lt_pow_right (by decide) (by omega))
    exact sm_of (blen_le_iff.2 h1) (by omega)
  obtain ⟨r, hr, rfl⟩ := Loop_run (body := fun (s : Nat × Int) => m_Parse_l1 a s.1 s.2) (1, 0) (fun s => ∃ i : Nat, i ≤ a.length ∧ s = (10 ^ i, (i : Int))) (fun s => (a.length - s.2).toNat) (fun r => r = 10 ^ a.length) ⟨0, Nat.zero_le _, rfl⟩ (by
    rintro s ⟨i, hi, rfl⟩
    simp only
    unfold m_Parse_l1
    by_cases h : i < a.length
    · left
      have e10 : n_of (10 : Int) = some 10 := n_of_eq (n := 10) (by omega)
      rw [if_pos (decide_eq_true (by omega)), e10, Option.bind_some, n_mul_eq (hb i (by omega)) (sm_small (by decide)), Option.bind_some]
      have e4 : IntKind.i64.wrap ((i : Int) + 1) = ((i + 1 : Nat) : Int) := by rw [i64_in (by omega)]; omega
      rw [e4]
      exact ⟨_, rfl, ⟨i + 1, h, by rw [Nat.pow_succ]⟩, by simp only; omega⟩
    · right
      rw [if_neg (by simp; omega)]
      exact ⟨_, rfl, by rw [show i = a.length from by omega]⟩)
  exact hr
theorem n_text_eq {s : List UInt8} (h : dig s = true) (hl : s.length ≤ 1000) : n_text s = some (decv s) := must_of ⟨by omega, (dig_decs h).1⟩ rfl
theorem decv_sm' {s : List UInt8} (h : dig s = true) (hl : s.length ≤ 2000) : sm (decv s) := sm_of (decv_sm (dig_decs h).1 (by omega)) (by omega)
theorem ten_sm {n : Nat} (h : n ≤ 1000) : sm (10 ^ n) := by
  have h1 : 10 ^ n < 2 ^ (4 * n + 1) := Nat.lt_of_le_of_lt (Nat.pow_le_pow_left (show 10 ≤ 16 by decide) n) (by rw [show (16 : Nat) = 2 ^ 4 from rfl, ← Nat.pow_mul]; exact Nat.pow_lt_pow_right (by decide) (by omega))
  exact sm_of (blen_le_iff.2 h1) (by omega)
theorem intT_dig {s : List UInt8} (h : intT s = true) : dig s = true := by unfold intT at h; rw [Bool.and_eq_true] at h; exact h.1
theorem dig_append {a b : List UInt8} (h : dig a = true) (k : dig b = true) : dig (a ++ b) = true := by
  unfold dig at *
  rw [Bool.and_eq_true] at *
  refine ⟨?_, by rw [List.all_append, h.2, k.2]; rfl⟩
  cases a with
  | nil => simp at h
  | cons x l => rfl
theorem fin_is (neg : Bool) (n d : Nat) (hd : d ≠ 0) (hn : sm n) (hs : sm d) : ((m_wholeOf neg n).bind fun (v60, v61) => (m_quotient v60 v61 d).bind fun ((v63, v64), v65) => some (((v63, v64), v65), (0 : Int))) = some (rp (mkRat (sg neg n) d), 0) := by
  rw [wholeOf_is, Option.bind_some]
  dsimp only
  rw [quotient_is _ _ hd (by rw [sg_abs]; exact hn) hs]; rfl
theorem ParseU_is (neg : Bool) (t : List UInt8) (hl : t.length ≤ 1000) :
    ((m_s_Cut t ([47] : List UInt8)).bind fun (v10, v11, v12) => (if v12 = true then (m_isInt v10).bind fun v15 => (if (!v15) = true then some (Ex.ret (((false, 0), 0), 4)) else (m_isInt v11).bind fun v18 => (if (!v18) = true then some (Ex.ret (((false, 0), 0), 4)) else (n_text v10).bind fun v21 => (n_text v11).bind fun v23 => (if (((digs v23).length : Int) == 0) = true then some (Ex.ret (((false, 0), 0), 9)) else some (Ex.brk (v21, v23))))) else (m_s_Cut t ([46] : List UInt8)).bind fun (v26, v27, v28) => ((m_isInt v26).bind fun v32 => (if (!v32) = true then some (Ex.ret (((false, 0), 0), 4)) else (if v28 = true then (m_digits v27).bind fun v36 => (if (!v36) = true then some (Ex.ret (((false, 0), 0), 4)) else some (Ex.brk ())) else some (Ex.brk ())))).bind fun o30 => (match o30 with | Ex.brk () => must (v26.length + v27.length ≤ 9223372036854775807) ((n_text (v26 ++ v27)).bind fun v40 => (Loop (fun (s : Nat × Int) => m_Parse_l1 v27 s.1 s.2) (1, 0)).bind fun v53 => some (Ex.brk (v40, v53))) | Ex.ret (((r54, r55), r56), r57) => some (Ex.ret (((r54, r55), r56), r57)))) : Option (Ex (Nat × Nat) (((Bool × Nat) × Nat) × Nat))).bind (fun o8 => (match o8 with | Ex.brk (v58, v59) => (m_wholeOf neg v58).bind fun (v60, v61) => (m_quotient v60 v61 v59).bind fun ((v63, v64), v65) => some (((v63, v64), v65), (0 : Int)) | Ex.ret (((r67, r68), r69), r70) => some (((r67, r68), r69), (r70 : Int))))
    = some (rp (parseU neg t).1, (parseU neg t).2) := by
  have c1 := cutB_len 47 t
  have c2 := cutB_len 46 t
  have hn46 := cutB_not 46 t
  rw [Cut_is t 47 (by omega), Cut_is t 46 (by omega)]
  unfold parseU
  generalize cutB 47 t = A at *
  generalize cutB 46 t = B at *
  obtain ⟨b, a, f⟩ := A
  obtain ⟨b', a', f'⟩ := B
  simp only at c1 c2 hn46
  simp only [Option.bind_some]
  cases f
  · simp only [Option.bind_some, Bool.false_eq_true, if_false, if_true, Bool.not_true, Bool.not_false, Bool.false_and, Bool.true_and]
    rw [isInt_is _ (by omega), digits_is _ (by omega)]
    cases h1 : intT b'
    · simp only [Option.bind_some, Bool.false_eq_true, if_false, if_true, Bool.not_true, Bool.not_false, Bool.false_and, Bool.true_and]; rfl
    · have d1 := intT_dig h1
      cases f'
      · have hn := hn46 rfl
        injection hn with e1 hn
        injection hn with e2 _
        subst e1; subst e2
        simp only [Option.bind_some, Bool.false_eq_true, if_false, if_true, Bool.not_true, Bool.not_false, Bool.false_and, Bool.true_and]
        rw [must_eq (by simp only [List.length_nil]; omega), n_text_eq (by rw [List.append_nil]; exact d1) (by rw [List.append_nil]; exact hl), Option.bind_some, tens_is _ (by decide), Option.bind_some, Option.bind_some]
        dsimp only
        have hfin := fin_is neg (decv (b' ++ [])) (10 ^ ([] : List UInt8).length) (by decide) (decv_sm' (by rw [List.append_nil]; exact d1) (by rw [List.append_nil]; omega)) (ten_sm (by decide))
        exact hfin
      · cases h3 : dig a'
        · simp only [Option.bind_some, Bool.false_eq_true, if_false, if_true, Bool.not_true, Bool.not_false, Bool.false_and, Bool.true_and]; rfl
        · simp only [Option.bind_some, Bool.false_eq_true, if_false, if_true, Bool.not_true, Bool.not_false, Bool.false_and, Bool.true_and]
          have d2 := dig_append d1 h3
          have hl2 : (b' ++ a').length ≤ 1000 := by rw [List.length_append]; omega
          rw [must_eq (by omega), n_text_eq d2 hl2, Option.bind_some, tens_is _ (by omega), Option.bind_some, Option.bind_some]
          dsimp only
          have hfin := fin_is neg (decv (b' ++ a')) (10 ^ a'.length) (Nat.pos_iff_ne_zero.1 (Nat.pow_pos (by decide))) (decv_sm' d2 (by omega)) (ten_sm (by omega))
          exact hfin
  · simp only [Option.bind_some, Bool.false_eq_true, if_false, if_true, Bool.not_true, Bool.not_false, Bool.false_and, Bool.true_and]
    rw [isInt_is _ (by omega), isInt_is _ (by omega)]
    cases h1 : intT b
    · simp only [Option.bind_some, Bool.false_eq_true, if_false, if_true, Bool.not_true, Bool.not_false, Bool.false_and, Bool.true_and]; rfl
    · cases h2 : intT a
      · simp only [Option.bind_some, Bool.false_eq_true, if_false, if_true, Bool.not_true, Bool.not_false, Bool.false_and, Bool.true_and]; rfl
      · have d1 := intT_dig h1
        have d2 := intT_dig h2
        simp only [Option.bind_some, Bool.false_eq_true, if_false, if_true, Bool.not_true, Bool.not_false, Bool.false_and, Bool.true_and]
        rw [n_text_eq d1 (by omega), n_text_eq d2 (by omega)]
        simp only [Option.bind_some, Bool.false_eq_true, if_false, if_true, Bool.not_true, Bool.not_false, Bool.false_and, Bool.true_and]
        rw [len_zero_iff]
        by_cases h0 : decv a = 0
        · rw [if_pos (decide_eq_true h0), if_pos h0]; rfl
        · rw [if_neg (by simpa using h0), if_neg h0]
          have hfin := fin_is neg _ _ h0 (decv_sm' d1 (by omega)) (decv_sm' d2 (by omega))
          exact hfin
theorem Parse_is (s : List UInt8) (hs : s.length ≤ 9223372036854775807) : m_Parse s = some (rp (parseQ s).1, (parseQ s).2) := by
  unfold m_Parse parseQ
  by_cases h : 1000 < s.length
  · rw [if_pos (decide_eq_true (by omega)), if_pos h]; rfl
  · rw [if_neg (by simp; omega), if_neg h, CutMinus_is s (by omega), one_of]
    by_cases hm : s.head? = some 45
    · rw [if_pos hm, if_pos hm]
      simp only [Option.bind_some]
      exact ParseU_is true (s.drop 1) (by rw [List.length_drop]; omega)
    · rw [if_neg hm, if_neg hm]
      simp only [Option.bind_some]
      exact ParseU_is false s (by omega)
def q_parse (s : List UInt8) : Option (Rat × Int) := must (s.length ≤ 9223372036854775807) (some (parseQ s))
theorem Q_parse {a1 : List UInt8} {r2 : Rat} {r3 : Int} (h : q_parse a1 = some (r2, r3)) : CtrG PP 23 [] [strD a1] [] (D.tup [qD r2, D.int .i64 r3]) := by
  obtain ⟨h0, h⟩ := must_some h
  have e := Parse_is a1 h0
  injection h with h
  rw [h] at e
  exact C_Parse e
end Go.Am
namespace Go.Am
open Go.RowKit
def cutE : List UInt8 → List UInt8 × Int × List UInt8
  | [] => ([], 0, [])
  | b :: l => if b = 47 then ([], 47, l) else if b = 46 then ([], 46, l) else (b :: (cutE l).1, (cutE l).2.1, (cutE l).2.2)
theorem cutE_len : ∀ l, (cutE l).1.length ≤ l.length ∧ ((cutE l).2.1 ≠ 0 → (cutE l).1.length + 1 + (cutE l).2.2.length = l.length) ∧ ((cutE l).2.1 = 0 → (cutE l).1 = l ∧ (cutE l).2.2 = [])
  | [] => by simp [cutE]
  | b :: l => by
    obtain ⟨h1, h2, h3⟩ := cutE_len l
    unfold cutE
    by_cases e : b = 47
    · rw [if_pos e]; simp; omega
    · by_cases e2 : b = 46
      · rw [if_neg e, if_pos e2]; simp; omega
      · rw [if_neg e, if_neg e2]
        refine ⟨by simp only [List.length_cons]; omega, fun h => by simp only [List.length_cons]; have := h2 h; omega, fun h => ?_⟩
        have := h3 h
        exact ⟨by rw [this.1], this.2⟩
theorem r_digits_is (s : List UInt8) (hl : s.length ≤ 1000000000) : m_r_digits s = some (dig s) := by
  unfold m_r_digits
  obtain ⟨r, hr, hq⟩ := Loop_run (body := fun (st : Int) => m_r_digits_l1 s st) 0 (fun st => ∃ i : Nat, st = (i : Int) ∧ i ≤ s.length ∧ ∀ j (h : j < s.length), j < i → 48 ≤ s[j].toNat ∧ s[j].toNat ≤ 57) (fun st => (s.length - st).toNat) (fun r => (r = Ex.brk () ∧ ∀ b ∈ s, 48 ≤ b.toNat ∧ b.toNat ≤ 57) ∨ (r = Ex.ret false ∧ ¬ ∀ b ∈ s, 48 ≤ b.toNat ∧ b.toNat ≤ 57)) ⟨0, rfl, Nat.zero_le _, fun j _ h => by omega⟩ (by
    rintro st ⟨i, rfl, hi, hk⟩
    unfold m_r_digits_l1
    by_cases h : i < s.length
    · rw [if_pos (decide_eq_true (by omega)), ix_get h]
      simp only [Option.bind_some]
      by_cases h1 : s[i].toNat < 48
      · right
        rw [if_pos (decide_eq_true (by omega))]
        exact ⟨_, rfl, .inr ⟨rfl, fun hall => by have := hall _ (List.getElem_mem h); omega⟩⟩
      · rw [if_neg (by simp; omega)]
        by_cases h2 : 57 < s[i].toNat
        · right
          rw [if_pos (decide_eq_true (by omega))]
          exact ⟨_, rfl, .inr ⟨rfl, fun hall => by have := hall _ (List.getElem_mem h); omega⟩⟩
        · left
          rw [if_neg (by simp; omega)]
          have e4 : IntKind.i64.wrap ((i : Int) + 1) = ((i + 1 : Nat) : Int) := by rw [i64_in (by omega)]; omega
          rw [e4]
          refine ⟨_, rfl, ⟨i + 1, rfl, h, fun j hj hji => ?_⟩, by omega⟩
          by_cases hj2 : j = i
          · subst hj2; omega
          · exact hk j hj (by omega)
    · right
      rw [if_neg (by simp; omega)]
      refine ⟨_, rfl, .inl ⟨rfl, fun b hb => ?_⟩⟩
      obtain ⟨j, hj, e⟩ := List.getElem_of_mem hb
      rw [← e]; exact hk j hj (by omega))
  rw [hr]
  unfold dig
  have hiff : (s.all fun b => decide (48 ≤ b.toNat) && decide (b.toNat ≤ 57)) = true ↔ ∀ b ∈ s, 48 ≤ b.toNat ∧ b.toNat ≤ 57 := by
    rw [List.all_eq_true]; simp
  rcases hq with ⟨rfl, h⟩ | ⟨rfl, h⟩
  · rw [hiff.2 h, Bool.and_true]
    cases s <;> rfl
  · have : (s.all fun b => decide (48 ≤ b.toNat) && decide (b.toNat ≤ 57)) = false := Bool.eq_false_iff.2 (fun k => h (hiff.1 k))
    rw [this, Bool.and_false]; rfl
theorem r_isInt_is (s : List UInt8) (hl : s.length ≤ 1000000000) : m_r_isInt s = some (intT s) := by
  unfold m_r_isInt intT
  cases s with
  | nil => rfl
  | cons a t =>
    have h0 : ((a :: t) == ([] : List UInt8)) = false := rfl
    have hne : ¬ ((a :: t) == ([] : List UInt8)) = true := by rw [h0]; decide
    rw [if_neg hne, List.head?_cons]
    have hix : ix (a :: t) 0 = some a := rfl
    by_cases h1 : (a :: t).length > 1
    · rw [if_pos (decide_eq_true (by omega)), hix, Option.bind_some]
      have hn1 : ((a :: t) == ([48] : List UInt8)) = false := by
        rw [beq_eq_false_iff_ne]; intro h; rw [h] at h1; simp at h1
      rw [hn1, Bool.false_or]
      by_cases e : a = 48
      · subst e
        rw [if_pos (by decide)]
        have : (!(some (48 : UInt8) == some 48)) = false := rfl
        rw [this, Bool.and_false]; rfl
      · have h2 : ¬ ((a.toNat : Int) == 48) = true := by
          rw [beq_iff_eq]; intro h; apply e; apply UInt8.toNat_inj.1; rw [show (48 : UInt8).toNat = 48 from rfl]; omega
        have h3 : (!(some a == some (48 : UInt8))) = true := by
          have : (some a == some (48 : UInt8)) = false := by rw [beq_eq_false_iff_ne]; intro h; injection h with h; exact e h
          rw [this]; rfl
        rw [if_neg h2, h3, Bool.and_true]
        simp only [Option.bind_some]
        rw [r_digits_is _ hl]; rfl
    · have ht : t = [] := by cases t with
        | nil => rfl
        | cons b l => simp at h1
      subst ht
      rw [if_neg (by simp)]
      simp only [Option.bind_some]
      rw [r_digits_is _ hl, Option.bind_some]
      congr 1
      by_cases e : a = 48
      · subst e; rfl
      · have h3 : (!(some a == some (48 : UInt8))) = true := by
          have : (some a == some (48 : UInt8)) = false := by rw [beq_eq_false_iff_ne]; intro h; injection h with h; exact e h
          rw [this]; rfl
        rw [h3, Bool.or_true, Bool.and_true]
theorem cutE_parts : ∀ l, l.take (cutE l).1.length = (cutE l).1 ∧ ((cutE l).2.1 ≠ 0 → l.drop ((cutE l).1.length + 1) = (cutE l).2.2)
  | [] => by simp [cutE]
  | b :: l => by
    obtain ⟨h1, h2⟩ := cutE_parts l
    unfold cutE
    by_cases e : b = 47
    · rw [if_pos e]; simp
    · by_cases e2 : b = 46
      · rw [if_neg e, if_pos e2]; simp
      · rw [if_neg e, if_neg e2]
        simp only [List.length_cons, List.take_succ_cons, List.drop_succ_cons]
        exact ⟨by rw [h1], h2⟩
theorem cutE_kind : ∀ l, (cutE l).2.1 = 0 ∨ (cutE l).2.1 = 47 ∨ (cutE l).2.1 = 46
  | [] => .inl rfl
  | b :: l => by
    unfold cutE
    split
    · exact .inr (.inl rfl)
    · split
      · exact .inr (.inr rfl)
      · exact cutE_kind l
theorem cutE_cons (b : UInt8) (l : List UInt8) : cutE (b :: l) = if b = 47 then ([], 47, l) else if b = 46 then ([], 46, l) else (b :: (cutE l).1, (cutE l).2.1, (cutE l).2.2) := rfl
theorem u8_ne47 {b : UInt8} (h : b ≠ 47) : ¬ ((b.toNat : Int) == 47) = true := by
  rw [beq_iff_eq]; intro k; apply h; apply UInt8.toNat_inj.1; rw [show (47 : UInt8).toNat = 47 from rfl]; omega
theorem u8_ne46 {b : UInt8} (h : b ≠ 46) : ¬ ((b.toNat : Int) == 46) = true := by
  rw [beq_iff_eq]; intro k; apply h; apply UInt8.toNat_inj.1; rw [show (46 : UInt8).toNat = 46 from rfl]; omega
theorem cut_loop (s : List UInt8) (hl : s.length ≤ 1000000000) : Loop (fun (st : Int × Int × Int) => m_r_Parse_l1 s st.1 st.2.1 st.2.2) ((s.length : Int), 0, 0) = some (((cutE s).1.length : Int), (cutE s).2.1) := by
  obtain ⟨r, hr, rfl⟩ := Loop_run (body := fun (st : Int × Int × Int) => m_r_Parse_l1 s st.1 st.2.1 st.2.2) ((s.length : Int), 0, 0)
    (fun st => ∃ i : Nat, st.2.2 = (i : Int) ∧ i ≤ s.length ∧ ((st.2.1 = 0 ∧ st.1 = (s.length : Int) ∧ (cutE s).1.length = i + (cutE (s.drop i)).1.length ∧ (cutE s).2 = (cutE (s.drop i)).2) ∨ (st.2.1 ≠ 0 ∧ st.1 = ((cutE s).1.length : Int) ∧ st.2.1 = (cutE s).2.1)))
    (fun st => (s.length - st.2.2).toNat) (fun r => r = (((cutE s).1.length : Int), (cutE s).2.1)) ⟨0, rfl, Nat.zero_le _, .inl ⟨rfl, rfl, by simp, by simp⟩⟩ (by
    rintro ⟨at', kd, i'⟩ ⟨i, hi, hil, hc⟩
    simp only at hi hc ⊢
    subst hi
    unfold m_r_Parse_l1
    by_cases h : i < s.length
    · left
      have hm : ((s.length : Int) - ((i + 1 : Nat) : Int)).toNat < ((s.length : Int) - (i : Int)).toNat := by omega
      have e4 : IntKind.i64.wrap ((i : Int) + 1) = ((i + 1 : Nat) : Int) := by rw [i64_in (by omega)]; omega
      rw [if_pos (decide_eq_true (by omega)), e4]
      have hd : s.drop i = s[i] :: s.drop (i + 1) := List.drop_eq_getElem_cons h
      rcases hc with ⟨hk, ha, h1, h2⟩ | ⟨hk, ha, h2⟩
      · subst hk; subst ha
        rw [if_pos (by decide), ix_get h]
        simp only [Option.bind_some]
        rw [hd] at h1 h2
        by_cases e : s[i] = 47
        · rw [e] at h1 h2 ⊢
          rw [if_pos (by decide)]
          rw [cutE_cons, if_pos rfl] at h1 h2
          exact ⟨_, rfl, ⟨i + 1, rfl, h, .inr ⟨by simp only; decide, by simp only; rw [h1]; simp, by simp only; rw [h2]; rfl⟩⟩, hm⟩
        · rw [if_neg (u8_ne47 e)]
          by_cases e2 : s[i] = 46
          · rw [e2] at h1 h2 ⊢
            rw [if_pos (by decide)]
            rw [cutE_cons, if_neg (by decide), if_pos rfl] at h1 h2
            exact ⟨_, rfl, ⟨i + 1, rfl, h, .inr ⟨by simp only; decide, by simp only; rw [h1]; simp, by simp only; rw [h2]; rfl⟩⟩, hm⟩
          · rw [if_neg (u8_ne46 e2)]
            rw [cutE_cons, if_neg e, if_neg e2] at h1 h2
            refine ⟨_, rfl, ⟨i + 1, rfl, h, .inl ⟨rfl, rfl, ?_, ?_⟩⟩, hm⟩
            · rw [h1, List.length_cons]; omega
            · rw [h2]
      · have hk0 : ¬ (kd == 0) = true := by rw [beq_iff_eq]; exact hk
        rw [if_neg hk0]
        exact ⟨_, rfl, ⟨i + 1, rfl, h, .inr ⟨hk, ha, h2⟩⟩, hm⟩
    · right
      rw [if_neg (by simp; omega)]
      refine ⟨_, rfl, ?_⟩
      rcases hc with ⟨hk, ha, h1, h2⟩ | ⟨hk, ha, h2⟩
      · rw [List.drop_of_length_le (by omega)] at h1 h2
        rw [hk, ha, h1, h2]
        have : i = s.length := by omega
        rw [this]; rfl
      · rw [ha, h2])
  exact hr
noncomputable def r_core (neg : Bool) (v9 : List UInt8) (v37 v38 : Int) : Option (((Bool × (List Int)) × (Bool × (List Int))) × Int) := (must ((0 : Int) ≤ v37 ∧ (v37 : Int) ≤ (v9.length : Int)) ((m_r_isInt (List.take v37.toNat v9)).bind fun v42 => (if (!v42) = true then some (Ex.ret (((false, []), (false, [])), 1)) else (if (v38 == 47) = true then must ((0 : Int) ≤ (IntKind.i64.wrap (v37 + 1)) ∧ ((IntKind.i64.wrap (v37 + 1)) : Int) ≤ (v9.length : Int)) ((m_r_isInt (List.drop (IntKind.i64.wrap (v37 + 1)).toNat v9)).bind fun v47 => (if (!v47) = true then some (Ex.ret (((false, []), (false, [])), 1)) else (if (v38 == 46) = true then must ((0 : Int) ≤ (IntKind.i64.wrap (v37 + 1)) ∧ ((IntKind.i64.wrap (v37 + 1)) : Int) ≤ (v9.length : Int)) ((m_r_digits (List.drop (IntKind.i64.wrap (v37 + 1)).toNat v9)).bind fun v52 => (if (!v52) = true then some (Ex.ret (((false, []), (false, [])), 1)) else some (Ex.brk ()))) else some (Ex.brk ())))) else (if (v38 == 46) = true then must ((0 : Int) ≤ (IntKind.i64.wrap (v37 + 1)) ∧ ((IntKind.i64.wrap (v37 + 1)) : Int) ≤ (v9.length : Int)) ((m_r_digits (List.drop (IntKind.i64.wrap (v37 + 1)).toNat v9)).bind fun v57 => (if (!v57) = true then some (Ex.ret (((false, []), (false, [])), 1)) else some (Ex.brk ()))) else some (Ex.brk ())))))).bind fun o39 => (match o39 with | Ex.brk () => must ((0 : Int) ≤ v37 ∧ (v37 : Int) ≤ (v9.length : Int)) ((m_r_ZParse (List.take v37.toNat v9)).bind fun (v61, v62) => (m_r_ZInt 1).bind fun (v64, v65) => ((if (v38 == 47) = true then must ((0 : Int) ≤ (IntKind.i64.wrap (v37 + 1)) ∧ ((IntKind.i64.wrap (v37 + 1)) : Int) ≤ (v9.length : Int)) ((m_r_ZParse (List.drop (IntKind.i64.wrap (v37 + 1)).toNat v9)).bind fun (v71, v72) => some ((v71, v72))) else some ((v64, v65)))).bind fun (v74, v75) => ((if (v38 == 46) = true then ((Loop (fun (s : Int × Bool × (List Int)) => m_r_Parse_l2 v9 s.1 s.2.1 s.2.2) ((IntKind.i64.wrap (v37 + 1)), v74, v75)).bind fun (v95, v96) => some ((v95, v96))).bind fun (v97, v98) => (m_r_ZMul v61 v62 v97 v98).bind fun (v99, v100) => must ((0 : Int) ≤ (IntKind.i64.wrap (v37 + 1)) ∧ ((IntKind.i64.wrap (v37 + 1)) : Int) ≤ (v9.length : Int)) ((m_r_ZParse (List.drop (IntKind.i64.wrap (v37 + 1)).toNat v9)).bind fun (v103, v104) => (m_r_ZAdd v99 v100 v103 v104).bind fun (v106, v107) => some ((v106, v107, v97, v98))) else some ((v61, v62, v74, v75)))).bind fun (v109, v110, v111, v112) => (if ((v112.length : Int) == 0) = true then some (((false, []), (false, [])), 2) else ((if neg = true then (m_r_ZNeg v109 v110).bind fun (v117, v118) => some ((v117, v118)) else some ((v109, v110)))).bind fun (v120, v121) => (m_r_QOf v120 v121 v111 v112).bind fun ((v122, v123), (v124, v125)) => some (((v122, v123), (v124, v125)), 0))) | Ex.ret (((r127, r128), (r129, r130)), r131) => some (((r127, r128), (r129, r130)), r131))
theorem r_Parse_cons (a : UInt8) (l : List UInt8) : m_r_Parse (a :: l) = ((if (((a.toNat : Int)) == 45) = true then must ((0 : Int) ≤ 1 ∧ (1 : Int) ≤ ((a :: l).length : Int)) (some ((List.drop (1 : Int).toNat (a :: l)))) else some (a :: l))).bind fun v9 => ((Loop (fun (s : Int × Int × Int) => m_r_Parse_l1 v9 s.1 s.2.1 s.2.2) ((v9.length : Int), 0, 0)).bind fun (v35, v36) => some ((v35, v36))).bind fun (v37, v38) => r_core ((a.toNat : Int) == 45) v9 v37 v38 := rfl
def parseRU (neg : Bool) (t : List UInt8) : Rat × Int :=
  if !intT (cutE t).1 then (0, 1)
  else if (cutE t).2.1 = 47 then (if !intT (cutE t).2.2 then (0, 1) else if decv (cutE t).2.2 = 0 then (0, 2) else (mkRat (sg neg (decv (cutE t).1)) (decv (cutE t).2.2), 0))
  else if (cutE t).2.1 = 46 then (if !dig (cutE t).2.2 then (0, 1) else (mkRat (sg neg (decv (cutE t).1 * 10 ^ (cutE t).2.2.length + decv (cutE t).2.2)) (10 ^ (cutE t).2.2.length), 0))
  else (mkRat (sg neg (decv (cutE t).1)) 1, 0)
def rout (x : Rat × Int) : ((Bool × List Int) × (Bool × List Int)) × Int := if x.2 = 0 then (rr x.1, 0) else (((false, []), (false, [])), x.2)
theorem tens_loop (t : List UInt8) (k m : Nat) (hk : k + m = t.length) (hm : t.length ≤ 100000000) : Loop (fun (s : Int × Bool × (List Int)) => m_r_Parse_l2 t s.1 s.2.1 s.2.2) ((k : Int), false, dg10 1) = some (false, dg10 (10 ^ m)) := by
  have hb : ∀ i, i ≤ 100000000 → sm (10 ^ i) := by
    intro i hi
    have h1 : 10 ^ i < 2 ^ (4 * i + 1) := Nat.lt_of_le_of_lt (Nat.pow_le_pow_left (show 10 ≤ 16 by decide) i) (by rw [show (16 : Nat) = 2 ^ 4 from rfl, ← Nat.pow_mul]; exact Nat.pow_lt_pow_right (by decide) (by omega))
    exact sm_of (blen_le_iff.2 h1) (by omega)
  have e10 : m_r_ZInt 10 = some (false, dg10 10) := ZInt_is 10 (by unfold i64r; omega)
  obtain ⟨r, hr, rfl⟩ := Loop_run (body := fun (s : Int × Bool × (List Int)) => m_r_Parse_l2 t s.1 s.2.1 s.2.2) ((k : Int), false, dg10 1) (fun s => ∃ i : Nat, i ≤ m ∧ s = (((k + i : Nat) : Int), false, dg10 (10 ^ i))) (fun s => (t.length - s.1).toNat) (fun r => r = (false, dg10 (10 ^ m))) ⟨0, Nat.zero_le _, rfl⟩ (by
    rintro s ⟨i, hi, rfl⟩
    simp only
    unfold m_r_Parse_l2
    by_cases h : i < m
    · left
      rw [if_pos (decide_eq_true (by omega)), e10]
      simp only [Option.bind_some]
      rw [nmul _ _ (hb i (by omega)) (sm_small (by decide))]
      simp only [Option.bind_some]
      have e4 : IntKind.i64.wrap (((k + i : Nat) : Int) + 1) = ((k + (i + 1) : Nat) : Int) := by rw [i64_in (by omega)]; omega
      rw [e4]
      exact ⟨_, rfl, ⟨i + 1, h, by rw [Nat.pow_succ]⟩, by simp only; omega⟩
    · right
      rw [if_neg (by simp; omega)]
      exact ⟨_, rfl, by rw [show i = m from by omega]⟩)
  exact hr
theorem decv_smR {s : List UInt8} (h : dig s = true) (hl : s.length ≤ 100000000) : blen (decv s) ≤ 400000000 := by
  have := decv_sm (dig_decs h).1 (by omega); omega
theorem ten_blen {n : Nat} (h : n ≤ 100000000) : blen (10 ^ n) ≤ 400000001 := by
  have h1 : 10 ^ n < 2 ^ (4 * n + 1) := Nat.lt_of_le_of_lt (Nat.pow_le_pow_left (show 10 ≤ 16 by decide) n) (by rw [show (16 : Nat) = 2 ^ 4 from rfl, ← Nat.pow_mul]; exact Nat.pow_lt_pow_right (by decide) (by omega))
  exact Nat.le_trans (blen_le_iff.2 h1) (by omega)
theorem r_fin (neg : Bool) (n d : Nat) (hd : d ≠ 0) (hn : sm n) (hs : sm d) :
    ((if neg = true then (m_r_ZNeg false (dg10 n)).bind fun (v117, v118) => some ((v117, v118)) else some ((false, dg10 n))).bind fun (v120, v121) => (m_r_QOf v120 v121 false (dg10 d)).bind fun ((v122, v123), (v124, v125)) => some (((v122, v123), (v124, v125)), (0 : Int))) = some (rr (mkRat (sg neg n) d), 0) := by
  cases neg
  · rw [if_neg (by decide), Option.bind_some]
    have h := QOf_pos (n : Int) d hd (by rw [Int.natAbs_natCast]; exact hn) hs
    rw [nat_lt0, Int.natAbs_natCast] at h
    dsimp only
    rw [h]; rfl
  · rw [if_pos rfl]
    have h1 := ZNeg_is (n : Int)
    rw [nat_lt0, Int.natAbs_natCast] at h1
    rw [h1, Option.bind_some, Option.bind_some]
    dsimp only
    rw [QOf_pos (-(n : Int)) d hd (by rw [Int.natAbs_neg, Int.natAbs_natCast]; exact hn) hs]; rfl
theorem core_is (neg : Bool) (t : List UInt8) (hl : t.length ≤ 100000000) : r_core neg t ((cutE t).1.length : Int) (cutE t).2.1 = some (rout (parseRU neg t)) := by
  obtain ⟨hb, hr⟩ := cutE_parts t
  obtain ⟨h1, h2, h3⟩ := cutE_len t
  have hk := cutE_kind t
  unfold r_core parseRU
  generalize cutE t = C at *
  obtain ⟨b, k, r⟩ := C
  simp only at hb hr h1 h2 h3 hk ⊢
  rw [must_eq ⟨by omega, by omega⟩, Int.toNat_natCast, hb, r_isInt_is b (by omega)]
  cases hi : intT b
  · simp only [Option.bind_some, Bool.false_eq_true, if_false, if_true, Bool.not_true, Bool.not_false]; rfl
  have db := intT_dig hi
  have hsb := decv_smR db (by omega)
  have zb : m_r_ZParse b = some (false, dg10 (decv b)) := ZParse_is b (dig_decs db).1 (by omega)
  rw [zb, one_z]
  have ew : IntKind.i64.wrap ((b.length : Int) + 1) = ((b.length + 1 : Nat) : Int) := by rw [i64_in (by omega)]; omega
  rw [ew, Int.toNat_natCast]
  have hbl : (0 : Int) ≤ (b.length : Int) ∧ (b.length : Int) ≤ (t.length : Int) := ⟨by omega, by omega⟩
  rcases hk with rfl | rfl | rfl
  · have c0 : ((0 : Int) == 47) = false := rfl
    have c1 : ((0 : Int) == 46) = false := rfl
    have d0 : ¬ (0 : Int) = 47 := by decide
    have d1 : ¬ (0 : Int) = 46 := by decide
    have z1 : (((dg10 1).length : Int) == 0) = false := by rw [beq_eq_false_iff_ne]; exact den_dg 1 (by decide)
    simp only [Option.bind_some, Bool.false_eq_true, if_false, if_true, Bool.not_true, Bool.not_false, c0, c1, d0, d1, must_eq hbl, z1]
    have hf := r_fin neg (decv b) 1 (by decide) (sm_of hsb (by omega)) (sm_small (by decide))
    exact hf
  · have hlr := h2 (by decide)
    have hdr := hr (by decide)
    have c0 : ((47 : Int) == 47) = true := rfl
    have c1 : ((47 : Int) == 46) = false := rfl
    have d1 : ¬ (47 : Int) = 46 := by decide
    have hbl2 : (0 : Int) ≤ ((b.length + 1 : Nat) : Int) ∧ ((b.length + 1 : Nat) : Int) ≤ (t.length : Int) := ⟨by omega, by omega⟩
    have ri : m_r_isInt r = some (intT r) := r_isInt_is r (by omega)
    cases h4 : intT r
    · simp only [Option.bind_some, Bool.false_eq_true, if_false, if_true, Bool.not_true, Bool.not_false, c0, c1, d1, must_eq hbl, must_eq hbl2, hdr, ri, h4]; rfl
    · have dr := intT_dig h4
      have zr : m_r_ZParse r = some (false, dg10 (decv r)) := ZParse_is r (dig_decs dr).1 (by omega)
      have hsr := decv_smR dr (by omega)
      simp only [Option.bind_some, Bool.false_eq_true, if_false, if_true, Bool.not_true, Bool.not_false, c0, c1, d1, must_eq hbl, must_eq hbl2, hdr, ri, h4, zr, zlen_zero]
      by_cases h0 : decv r = 0
      · rw [if_pos (decide_eq_true h0), if_pos h0]; rfl
      · rw [if_neg (by simpa using h0), if_neg h0]
        have hf := r_fin neg (decv b) (decv r) h0 (sm_of hsb (by omega)) (sm_of hsr (by omega))
        exact hf
  · have hlr := h2 (by decide)
    have hdr := hr (by decide)
    have c0 : ((46 : Int) == 47) = false := rfl
    have c1 : ((46 : Int) == 46) = true := rfl
    have d0 : ¬ (46 : Int) = 47 := by decide
    have hbl2 : (0 : Int) ≤ ((b.length + 1 : Nat) : Int) ∧ ((b.length + 1 : Nat) : Int) ≤ (t.length : Int) := ⟨by omega, by omega⟩
    have ri : m_r_digits r = some (dig r) := r_digits_is r (by omega)
    cases h4 : dig r
    · simp only [Option.bind_some, Bool.false_eq_true, if_false, if_true, Bool.not_true, Bool.not_false, c0, c1, d0, must_eq hbl, must_eq hbl2, hdr, ri, h4]; rfl
    · have zr : m_r_ZParse r = some (false, dg10 (decv r)) := ZParse_is r (dig_decs h4).1 (by omega)
      have hsr := decv_smR h4 (by omega)
      have ht := tens_loop t (b.length + 1) r.length (by omega) (by omega)
      have htb := ten_blen (n := r.length) (by omega)
      have z1 : (((dg10 (10 ^ r.length)).length : Int) == 0) = false := by rw [beq_eq_false_iff_ne]; exact den_dg _ (Nat.pos_iff_ne_zero.1 (Nat.pow_pos (by decide)))
      have hm := nmul (decv b) (10 ^ r.length) (sm_of hsb (by omega)) (sm_of htb (by omega))
      have hpb : blen (decv b * 10 ^ r.length) ≤ 800000001 := Nat.le_trans (blen_mul_le hsb htb) (by omega)
      have ha := nadd (decv b * 10 ^ r.length) (decv r) (sm_of hpb (by omega)) (sm_of hsr (by omega))
      simp only [Option.bind_some, Bool.false_eq_true, if_false, if_true, Bool.not_true, Bool.not_false, c0, c1, d0, must_eq hbl, must_eq hbl2, hdr, ri, h4, zr, ht, hm, ha, z1]
      have hf := r_fin neg (decv b * 10 ^ r.length + decv r) (10 ^ r.length) (Nat.pos_iff_ne_zero.1 (Nat.pow_pos (by decide))) (sm_of (blen_add hpb (Nat.le_trans hsr (by omega))) (by omega)) (sm_of htb (by omega))
      exact hf
def parseR (s : List UInt8) : Rat × Int := if s.head? = some 45 then parseRU true (s.drop 1) else parseRU false s
theorem r_Parse_is (s : List UInt8) (hl : s.length ≤ 100000000) : m_r_Parse s = some (rout (parseR s)) := by
  cases s with
  | nil =>
    have h := cut_loop [] (by decide)
    have h2 : m_r_isInt [] = some false := rfl
    unfold m_r_Parse
    have h3 : ¬ (!(([] : List UInt8) == ([] : List UInt8))) = true := by decide
    rw [if_neg h3]
    have h4 : Loop (fun (st : Int × Int × Int) => m_r_Parse_l3 [] st.1 st.2.1 st.2.2) ((([] : List UInt8).length : Int), 0, 0) = some (((cutE []).1.length : Int), (cutE []).2.1) := h
    rw [h4]
    simp only [Option.bind_some]
    rw [must_eq (by decide)]
    have h5 : List.take (((cutE []).1.length : Int)).toNat ([] : List UInt8) = [] := rfl
    rw [h5, h2]; rfl
  | cons a l =>
    rw [r_Parse_cons]
    unfold parseR
    by_cases e : a = 45
    · subst e
      rw [if_pos (by decide), must_eq (by simp only [List.length_cons]; omega), Option.bind_some]
      have e1 : List.drop (1 : Int).toNat ((45 : UInt8) :: l) = l := rfl
      have hl2 : l.length ≤ 100000000 := by simp only [List.length_cons] at hl; omega
      rw [e1, cut_loop l (by omega), if_pos (show ((45 : UInt8) :: l).head? = some 45 from rfl)]
      simp only [Option.bind_some]
      exact core_is true l hl2
    · have h1 : ((a.toNat : Int) == 45) = false := by
        rw [beq_eq_false_iff_ne]; intro h; apply e; apply UInt8.toNat_inj.1; rw [show (45 : UInt8).toNat = 45 from rfl]; omega
      have h2 : ¬ (a :: l).head? = some 45 := by intro h; injection h with h; exact e h
      rw [h1, if_neg (by decide), Option.bind_some, cut_loop _ (by omega), if_neg h2]
      simp only [Option.bind_some]
      exact core_is false (a :: l) hl
def r_parse (s : List UInt8) : Option (Rat × Int) := must (s.length ≤ 100000000) (some (if (parseR s).2 = 0 then parseR s else (0, (parseR s).2)))
theorem dg10_nil' : Le (slcE (Enc.int .i64) []) (slcE (Enc.int .i64) (dg10 (0 : Rat).num.natAbs)) := by rw [Rat.zero_num, show Int.natAbs 0 = 0 from rfl, dg10_zero]; exact .refl _
theorem R_parse {a1 : List UInt8} {r2 : Rat} {r3 : Int} (h : r_parse a1 = some (r2, r3)) : CtrG PP 25 [] [strD a1] [] (D.tup [rqD r2, D.int .i64 r3]) := by
  obtain ⟨h0, h⟩ := must_some h
  have e := r_Parse_is a1 h0
  injection h with h
  unfold rout at e
  by_cases hz : (parseR a1).2 = 0
  · rw [if_pos hz] at h e
    rw [h] at e hz
    simp only at e hz
    subst hz
    exact (C_r_Parse e).outR (.tup2c (rq_close _))
  · rw [if_neg hz] at h e
    injection h with h1 h2
    rw [h2] at e
    subst h1
    exact (C_r_Parse e).outR (.tup2c (.agg ⟨.refl _, dg10_nil' , .refl _, denD_of' (.inr ⟨rfl, rfl⟩), trivial⟩))
end Go.Am
namespace Go.Am
open Go.RowKit
set_option maxRecDepth 100000
noncomputable section
def m_nearer (a1 : Rat) (a2 : Rat) (a3 : Rat) : Option Rat := (q_sub a2 a1).bind fun v4 => (q_abs v4).bind fun v6 => (q_sub a3 a1).bind fun v8 => (q_abs v8).bind fun v10 => (q_cmp v6 v10).bind fun v12 => ((if (v12 == 0) = true then (q_den a2).bind fun v17 => (q_den a3).bind fun v19 => (q_cmp v17 v19).bind fun v21 => some (v21) else some (v12))).bind fun v23 => ((if (decide (v23 < 0)) = true then some (Ex.ret a2) else (if (v23 == 0) = true then (q_cmp a2 a3).bind fun v28 => (if (decide (v28 < 0)) = true then some (Ex.ret a2) else some (Ex.brk ())) else some (Ex.brk ())))).bind fun o24 => (match o24 with | Ex.brk () => some a3 | Ex.ret r31 => some r31)
theorem C_nearer {a1 : Rat} {a2 : Rat} {a3 : Rat} {r32 : Rat} (h : m_nearer a1 a2 a3 = some r32) : CtrG PP 165 [] [qD a1, qD a2, qD a3] [] (qD r32) := by
  unfold m_nearer at h
  refine .of Go.Proofs.Tryz.func165 rfl (by kernel_rfl) rfl rfl rfl rfl rfl rfl (fun A w0 L b => ?_)
  show Ok PP _ [(0, qD a1), (1, qD a2), (2, qD a3)] [] _ _
  refine .reg (.bxA rfl rfl <| .bxA rfl rfl <| .bxA rfl rfl <| .alL (qC (0)) z_exact_Q ⟨zq1, zq2, zq3, trivial⟩ rfl <| .nil) rfl ?_
  obtain ⟨v4, e5, h⟩ := bind_some h
  obtain ⟨v6, e7, h⟩ := bind_some h
  obtain ⟨v8, e9, h⟩ := bind_some h
  obtain ⟨v10, e11, h⟩ := bind_some h
  obtain ⟨v12, e13, h⟩ := bind_some h
  refine .regD hmix (.ldE (qC (a2)) rfl rfl ly_exact_Q rfl rfl <| .ldE (qC (a1)) rfl rfl ly_exact_Q rfl rfl <| .callG (Q_sub e5) ⟨rfl, rfl, trivial⟩ trivial trivial <| .callG (Q_abs e7) ⟨rfl, trivial⟩ trivial trivial <| .ldE (qC (a3)) rfl rfl ly_exact_Q rfl rfl <| .ldE (qC (a1)) rfl rfl ly_exact_Q rfl rfl <| .callG (Q_sub e9) ⟨rfl, rfl, trivial⟩ trivial trivial <| .callG (Q_abs e11) ⟨rfl, trivial⟩ trivial trivial <| .callG (Q_cmp e13) ⟨rfl, rfl, trivial⟩ trivial trivial <| .asg rfl <| .nil) rfl (by kernel_rfl) ?_
  obtain ⟨v23, hp15, h⟩ := bind_some h
  refine .cutX (fun i => v23 = i) (fun (i : Int) => [(4, D.ref 4 0), (5, D.ref 5 0), (6, D.ref 6 0), (7, D.int .i64 i)]) (fun (i : Int) => [(4, Hp.box 28 (qC (a2))), (5, Hp.box 28 (qC (a3))), (6, Hp.box 28 (qC (0)))]) ?_ ?_
  · have ho1 := h
    clear h
    have h := hp15
    clear hp15
    refine .reg (.mv rfl <| .cm rfl rfl rfl <| .nil) rfl ?_
    by_cases c16 : (v12 == 0) = true
    · replace h := ite_pos_some c16 h
      refine .cTb rfl c16 ?_
      obtain ⟨v17, e18, h⟩ := bind_some h
      obtain ⟨v19, e20, h⟩ := bind_some h
      obtain ⟨v21, e22, h⟩ := bind_some h
      refine .regionD hmix (.ldE (qC (a2)) rfl rfl ly_exact_Q rfl rfl <| .callG (Q_den e18) ⟨rfl, trivial⟩ trivial trivial <| .ldE (qC (a3)) rfl rfl ly_exact_Q rfl rfl <| .callG (Q_den e20) ⟨rfl, trivial⟩ trivial trivial <| .callG (Q_cmp e22) ⟨rfl, rfl, trivial⟩ trivial trivial <| .asg rfl <| .nil) rfl (by kernel_rfl) (fun _ _ hs => ⟨v21, (Option.some.inj h).symm, hs.sub ⟨⟨_, rfl, .refl _⟩, ⟨_, rfl, .refl _⟩, ⟨_, rfl, .refl _⟩, ⟨_, rfl, .refl _⟩, trivial⟩ ⟨⟨_, rfl, .refl _⟩, ⟨_, rfl, .refl _⟩, ⟨_, rfl, .refl _⟩, trivial⟩ rfl rfl⟩)
    · replace h := ite_neg_some c16 h
      refine .cFb rfl c16 ?_
      refine .skip (fun _ _ hs => ⟨v12, (Option.some.inj h).symm, hs.sub ⟨⟨_, rfl, .refl _⟩, ⟨_, rfl, .refl _⟩, ⟨_, rfl, .refl _⟩, ⟨_, rfl, .refl _⟩, trivial⟩ ⟨⟨_, rfl, .refl _⟩, ⟨_, rfl, .refl _⟩, ⟨_, rfl, .refl _⟩, trivial⟩ rfl rfl⟩)
  · rintro _ rfl
    show Ok PP _ [(4, D.ref 4 0), (5, D.ref 5 0), (6, D.ref 6 0), (7, D.int .i64 v23)] [(4, Hp.box 28 (qC (a2))), (5, Hp.box 28 (qC (a3))), (6, Hp.box 28 (qC (0)))] _ _
    obtain ⟨o24, hp25, h⟩ := bind_some h
    refine .cutX (fun i => o24 = Ex.brk i) (fun (i : Unit) => [(5, D.ref 5 0), (6, D.ref 6 0)]) (fun (i : Unit) => [(5, Hp.box 28 (qC (a3))), (6, Hp.box 28 (qC (0)))]) ?_ ?_
    · have ho1 := h
      clear h
      have h := hp25
      clear hp25
      by_cases c26 : (decide (v23 < 0)) = true
      · replace h := ite_pos_some c26 h
        refine .reg (.mv rfl <| .cm rfl rfl rfl <| .mv rfl <| .gNf rfl rfl rfl c26 <| .gNf rfl rfl rfl c26 <| .gNf rfl rfl rfl c26 <| .gU rfl rfl <| .gU rfl rfl <| .gU rfl rfl <| .gU rfl rfl <| .gNf rfl rfl rfl c26 <| .pkTb rfl c26 rfl <| .nil) rfl ?_
        refine .cTb rfl rfl ?_
        refine .reg (.ldE (qC (a2)) rfl rfl ly_exact_Q rfl rfl <| .stE (qC (a2)) rfl rfl rfl ly_exact_Q rfl rfl rfl <| .nil) rfl ?_
        cases h
        have h := ho1
        clear ho1
        cases h
        refine .retG (fun _ _ hb => hb) rfl (.cons (.agg rfl rfl ly_exact_Q rfl) .nil) (.refl _) trivial trivial
      · replace h := ite_neg_some c26 h
        by_cases c27 : (v23 == 0) = true
        · replace h := ite_pos_some c27 h
          obtain ⟨v28, e29, h⟩ := bind_some h
          refine .reg (.mv rfl <| .cm rfl rfl rfl <| .mv rfl <| .gYf rfl rfl rfl c26 <| .mv rfl <| .gYf rfl rfl rfl c26 <| .cm rfl rfl rfl <| .gYf rfl rfl rfl c26 <| .mv rfl <| .gYt rfl rfl rfl c27 <| .ldE (qC (a2)) rfl rfl ly_exact_Q rfl rfl <| .gYt rfl rfl rfl c27 <| .ldE (qC (a3)) rfl rfl ly_exact_Q rfl rfl <| .gYt rfl rfl rfl c27 <| .callG (Q_cmp e29) ⟨rfl, rfl, trivial⟩ trivial trivial <| .gYt rfl rfl rfl c27 <| .cm rfl rfl rfl <| .gYf rfl rfl rfl c26 <| .pkTb rfl c27 rfl <| .pkFb rfl c26 rfl <| .nil) rfl ?_
          by_cases c30 : (decide (v28 < 0)) = true
          · replace h := ite_pos_some c30 h
            refine .cTb rfl c30 ?_
            refine .reg (.ldE (qC (a2)) rfl rfl ly_exact_Q rfl rfl <| .stE (qC (a2)) rfl rfl rfl ly_exact_Q rfl rfl rfl <| .nil) rfl ?_
            cases h
            have h := ho1
            clear ho1
            cases h
            refine .retG (fun _ _ hb => hb) rfl (.cons (.agg rfl rfl ly_exact_Q rfl) .nil) (.refl _) trivial trivial
          · replace h := ite_neg_some c30 h
            refine .cFb rfl c30 ?_
            refine .skip (fun _ _ hs => ⟨(), (Option.some.inj h).symm, hs.sub ⟨⟨_, rfl, .refl _⟩, ⟨_, rfl, .refl _⟩, trivial⟩ ⟨⟨_, rfl, .refl _⟩, ⟨_, rfl, .refl _⟩, trivial⟩ rfl rfl⟩)
        · replace h := ite_neg_some c27 h
          refine .reg (.mv rfl <| .cm rfl rfl rfl <| .mv rfl <| .gYf rfl rfl rfl c26 <| .mv rfl <| .gYf rfl rfl rfl c26 <| .cm rfl rfl rfl <| .gYf rfl rfl rfl c26 <| .mv rfl <| .gNt rfl rfl rfl c27 <| .gNt rfl rfl rfl c27 <| .gNt rfl rfl rfl c27 <| .gNt rfl rfl rfl c27 <| .gYf rfl rfl rfl c26 <| .pkFb rfl c27 rfl <| .pkFb rfl c26 rfl <| .nil) rfl ?_
          refine .cFb rfl (by decide) ?_
          refine .skip (fun _ _ hs => ⟨(), (Option.some.inj h).symm, hs.sub ⟨⟨_, rfl, .refl _⟩, ⟨_, rfl, .refl _⟩, trivial⟩ ⟨⟨_, rfl, .refl _⟩, ⟨_, rfl, .refl _⟩, trivial⟩ rfl rfl⟩)
    · rintro ⟨⟩ rfl
      show Ok PP _ [(5, D.ref 5 0), (6, D.ref 6 0)] [(5, Hp.box 28 (qC (a3))), (6, Hp.box 28 (qC (0)))] _ _
      refine .reg (.ldE (qC (a3)) rfl rfl ly_exact_Q rfl rfl <| .stE (qC (a3)) rfl rfl rfl ly_exact_Q rfl rfl rfl <| .nil) rfl ?_
      cases h
      refine .retG (fun _ _ hb => hb) rfl (.cons (.agg rfl rfl ly_exact_Q rfl) .nil) (.refl _) trivial trivial
end
end Go.Am
namespace Go.Am
abbrev FR (l : Nat) : Fence := Fence.wide.inRound l
theorem fencedR (P : Program) (l : Nat) (m : Machine) : m.fenced P (FR l) := by
  have := fenced_wide P m
  exact this
theorem stepsInR {P : Program} {l : Nat} {m m' : Machine} : StepsIn (Machine.fenced P (FR l)) P m m' ↔ Steps P m m' :=
  ⟨StepsIn.steps, fun h => (StepsIn.of_steps h).mono fun m _ => fencedR P l m⟩
theorem comesInR {P : Program} {l : Nat} {m m' : Machine} {e : Ending} : ComesIn (Machine.fenced P (FR l)) P m m' e ↔ Comes P m m' e := by
  cases e with
  | returned v => exact stepsInR
  | panicked chain => exact stepsInR
  | outgrown => exact Iff.rfl
theorem callsInR {l n : Nat} {P : Program} {f : FuncId} {args : Array Value} {w : World} {R : Ending → World → Prop} (h : Calls P f args w R) : CallsIn (FR l) n P f args w R :=
  ⟨trivial, fun cs _ => let ⟨e, w', fr, r, s, x⟩ := h cs; ⟨e, w', fr, r, comesInR.2 s, x⟩⟩
theorem rowsInR {l n : Nat} {P : Program} {row : String} {args : Array Value} {w : World} {R : Value → World → Prop} (h : Rows P row args w R) : RowsIn (FR l) n P row args w R :=
  fun c cs _ => let ⟨v, w', r, s⟩ := h c cs; ⟨v, w', r, stepsInR.2 s⟩
theorem upon_in {P : Program} {l n : Nat} {o : Oper} {a : Act} {next next' : Act → World → Prop} {Q : Exit → Act → World → Prop} (hn : ∀ a w, next a w → next' a w) : ∀ {r : Result Next}, o.upon P a next Q r → o.uponIn (FR l) n P a next' Q r
  | .ok (.value v) w', h => hn _ _ h
  | .ok .skip w', h => hn _ _ h
  | .ok (.defer d) w', h => hn _ _ h
  | .ok (.enter f args) w', h => ⟨fun hd => (by simp [FR, Fence.wide] at hd), callsInR (Calls.mono h fun e w'' hr => by
      cases e with
      | returned v => exact hn _ _ hr
      | panicked chain => exact hr
      | outgrown => exact hr)⟩
  | .ok (.row row args) w', h => ⟨fun hd => (by simp [FR, Fence.wide] at hd), rowsInR (Rows.mono h fun v w'' hr => hn _ _ hr)⟩
  | .halt (.panic v) w', h => h
  | .ok (.round ..) _, h => h.elim
theorem ops_in {P : Program} {l n : Nat} {ops : Array Oper} {Q : Exit → Act → World → Prop} (hQ : ¬ LetsOut Q) (hd : ∀ (i : Nat) (o : Oper), ops[i]? = some o → ∀ c, o.op ≠ .defer c) : ∀ (is : List Nat) (a : Act) (w : World), wpOps P ops Q is a w → wpOpsIn (FR l) n P ops Q is a w
  | [], a, w, h => h
  | i :: rest, a, w, h => by
    unfold wpOps at h
    unfold wpOpsIn
    cases ho : ops[i]? with
    | none => rw [ho] at h; exact ops_in hQ hd rest a w h
    | some o =>
      rw [ho] at h
      simp only at h ⊢
      split
      · rename_i hw
        rw [if_pos hw] at h
        rcases h with h | h
        · refine ⟨fun _ _ => trivial, ?_⟩
          rw [Oper.semAt_eq _ _ _ (hd i o ho)]
          exact upon_in (fun a w hk => ops_in hQ hd rest a w hk) h
        · exact absurd h.2 hQ
      · rename_i hw
        rw [if_neg hw] at h
        exact ⟨fun _ _ => trivial, ops_in hQ hd rest _ w h⟩
def noDefer (l : List Oper) : Bool := l.all fun o => match o.op with | .defer _ => false | _ => true
theorem noDefer_get {l : List Oper} (h : noDefer l = true) (i : Nat) (o : Oper) (ho : l.toArray[i]? = some o) : ∀ c, o.op ≠ .defer c := by
  intro c hc
  have hm : o ∈ l := by rw [List.getElem?_toArray] at ho; exact List.mem_of_getElem? ho
  have := List.all_eq_true.1 h o hm
  rw [hc] at this
  cases this
def OkR (P : Program) (c : Ctx) (T : List (Nat × D)) (H : List (Nat × Hp)) (x : Code) (Q : Exit → Act → World → Prop) : Prop :=
  ∀ l n a w, Sat c (tget T) (hget H) a w → x.wpIn (FR l) n P Q a w
section
variable {P : Program} {c : Ctx} {T T' : List (Nat × D)} {H H' : List (Nat × Hp)} {Q : Exit → Act → World → Prop} {x y : Code} {id : Nat} {sps : List Spec}
theorem OkR.region {l : List Oper} (hL : ¬ LetsOut Q) (hn : noDefer l = true) (h : Runs P l.toArray c l T H sps T' H') (hd : dstsOk c.n l = true) (hQ : ∀ a w, Sat c (tget T') (hget H') a w → Q .normal a w) : OkR P c T H (.region id l.toArray false) Q := by
  intro k n a w hs
  refine wpIn_region (ops_in hL (noDefer_get hn) _ a w ?_)
  have h1 := h.wp hd hQ a w hs
  have h2 := wpOps_eq_wpList (P := P) (ops := l.toArray) (Q := Q) l 0 (by simp)
  rw [List.range_eq_range', show l.toArray.size = l.length from by simp, h2]
  exact h1
theorem OkR.regionD {l : List Oper} (hL : ¬ LetsOut Q) (hn : noDefer l = true) (hm : P.follows .mixedOrders = true) (h : Runs P l.toArray c l T H sps T' H') (hd : dstsOk c.n l = true) (hord : ordOk [] [] 0 (l.zip sps) = true) (hQ : ∀ a w, Sat c (tget T') (hget H') a w → Q .normal a w) : OkR P c T H (.region id l.toArray true) Q := by
  intro k n a w hs
  refine wpIn_region_draw fun t => ops_in hL (noDefer_get hn) _ a _ ?_
  simp only [Region.schedule, hm, Bool.true_or, if_true]
  exact wpAny_sound l.toArray.size t _ a _ (h.anyOrder hd hord hQ a w hs)
theorem letsOut_then {K : Act → World → Prop} (h : ¬ LetsOut Q) : ¬ LetsOut (Exit.then K Q) := h
theorem OkR.seq {K : Act → World → Prop} (h : OkR P c T H x (Exit.then K Q)) (hy : ∀ l n a w, K a w → y.wpIn (FR l) n P Q a w) : OkR P c T H (.seq x y) Q :=
  fun l n a w hs => wpIn_seq (wpIn_mono (h l n a w hs) (fun e a' w' q => by cases e <;> first | exact q | exact hy _ _ _ _ q))
theorem OkR.regD {l : List Oper} (hL : ¬ LetsOut Q) (hn : noDefer l = true) (hm : P.follows .mixedOrders = true) (h : Runs P l.toArray c l T H sps T' H') (hd : dstsOk c.n l = true) (hord : ordOk [] [] 0 (l.zip sps) = true) (hy : OkR P c T' H' y Q) : OkR P c T H (.seq (.region id l.toArray true) y) Q :=
  .seq (K := fun a w => Sat c (tget T') (hget H') a w) (OkR.regionD (letsOut_then hL) hn hm h hd hord (fun _ _ hs => hs)) (fun l n a w hs => hy l n a w hs)
theorem OkR.block (h : OkR P c T H x (Exit.inBlock id Q)) : OkR P c T H (.block id x) Q := fun l n a w hs => wpIn_block (h l n a w hs)
theorem OkR.exit (h : ∀ a w, Sat c (tget T) (hget H) a w → Q (.exit id) a w) : OkR P c T H (.exit id) Q := fun _ _ a w hs => wpIn_exit (h a w hs)
theorem OkR.skip (h : ∀ a w, Sat c (tget T) (hget H) a w → Q .normal a w) : OkR P c T H .skip Q := fun _ _ a w hs => wpIn_skip (h a w hs)
theorem OkR.cT {o : Operand} (h : ev T o = some (.bool true)) (k : OkR P c T H x Q) : OkR P c T H (.cond o x y) Q := by
  intro l n a w hs
  obtain ⟨ε, φ, hs'⟩ := hs
  exact wpIn_cond_true (hs'.ev (ev_split h).1 (ev_split h).2).1 (k l n a w ⟨ε, φ, hs'⟩)
theorem OkR.cF {o : Operand} (h : ev T o = some (.bool false)) (k : OkR P c T H y Q) : OkR P c T H (.cond o x y) Q := by
  intro l n a w hs
  obtain ⟨ε, φ, hs'⟩ := hs
  exact wpIn_cond_false (hs'.ev (ev_split h).1 (ev_split h).2).1 (k l n a w ⟨ε, φ, hs'⟩)
theorem OkR.sq (h : OkR P c T H x (Exit.then (fun a w => ∀ l n, y.wpIn (FR l) n P Q a w) Q)) : OkR P c T H (.seq x y) Q := .seq h (fun l n _ _ k => k l n)
end
end Go.Am
