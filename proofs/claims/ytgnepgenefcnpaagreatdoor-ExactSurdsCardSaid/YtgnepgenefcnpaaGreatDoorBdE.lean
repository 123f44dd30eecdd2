/- Part 5 of 8 of what the laws of layer 1 share: contracts of functions of the program, each for every argument of its description; no condition beyond it. -/
import Derived.Test.YtgnepgenefcnpaaGreatDoorBdD
import Derived.Shelf.Strings.SlTrimAscii
import Derived.Shelf.Strings.Trim
import Derived.Shelf.Small.Strs
import Derived.Shelf.Strings.Search1
import Derived.Shelf.Strings.Search2
import Derived.Shelf.Strings.Cut
import Derived.Test.YtgnepgenefcnpaaGreatDoorProg
import Derived.RangeFuncOwn
set_option linter.unusedVariables false
set_option linter.unusedSimpArgs false
namespace Go.Am
open Go.RowKit
set_option maxRecDepth 100000
noncomputable section
def m_r_Q_den (a1 : Bool) (a2 : List Int) (a3 : Bool) (a4 : List Int) : Option (Bool × (List Int)) := (if ((a4.length : Int) == 0) = true then (m_r_ZInt 1).bind fun (v6, v7) => some (v6, v7) else some (a3, a4))
theorem C_r_Q_den {a1 : Bool} {a2 : List Int} {a3 : Bool} {a4 : List Int} {r9 : Bool} {r10 : List Int} (h : m_r_Q_den a1 a2 a3 a4 = some (r9, r10)) : CtrG PP 173 [] [D.agg ([D.bool a1, slcE (Enc.int .i64) a2, D.bool a3, slcE (Enc.int .i64) a4])] [] (D.agg ([D.bool r9, slcE (Enc.int .i64) r10])) := by
  unfold m_r_Q_den at h
  refine .of Go.Proofs.Tryz.func173 rfl (by kernel_rfl) rfl rfl rfl rfl rfl rfl (fun A w0 L b => ?_)
  show Ok PP _ [(0, D.agg ([D.bool a1, slcE (Enc.int .i64) a2, D.bool a3, slcE (Enc.int .i64) a4]))] [] _ _
  refine .reg (.bxA rfl rfl <| .alL ([D.bool false, D.nil]) z_ambleref01_Z ⟨.refl _, .refl _, trivial⟩ rfl <| .nil) rfl ?_
  refine .sq ?_
  refine .reg (.fa rfl f_ambleref01_Q_1 <| .fa rfl f_ambleref01_Z_1 <| .ldE1 (slcE (Enc.int .i64) a4) rfl rfl ly_Lint rfl <| .lnE rfl is_Lint <| .cm rfl rfl rfl <| .nil) rfl ?_
  by_cases c5 : ((a4.length : Int) == 0) = true
  · replace h := ite_pos_some c5 h
    refine .cTb rfl c5 ?_
    obtain ⟨⟨v6, v7⟩, e8, h⟩ := bind_some h
    refine .reg (.callG (C_r_ZInt e8) ⟨rfl, trivial⟩ trivial trivial <| .stE ([D.bool v6, slcE (Enc.int .i64) v7]) rfl rfl rfl ly_ambleref01_Z rfl rfl rfl <| .nil) rfl ?_
    cases h
    refine .retG (fun _ _ hb => hb) rfl (.cons (.agg rfl rfl ly_ambleref01_Z rfl) .nil) (.refl _) trivial trivial
  · replace h := ite_neg_some c5 h
    refine .cFb rfl c5 ?_
    refine .skip (Ok.on ?_)
    refine .reg (.fa rfl f_ambleref01_Q_1 <| .ldE ([D.bool a3, slcE (Enc.int .i64) a4]) rfl rfl ly_ambleref01_Z rfl rfl <| .stE ([D.bool a3, slcE (Enc.int .i64) a4]) rfl rfl rfl ly_ambleref01_Z rfl rfl rfl <| .nil) rfl ?_
    cases h
    refine .retG (fun _ _ hb => hb) rfl (.cons (.agg rfl rfl ly_ambleref01_Z rfl) .nil) (.refl _) trivial trivial
def m_r_QOf (a1 : Bool) (a2 : List Int) (a3 : Bool) (a4 : List Int) : Option ((Bool × (List Int)) × (Bool × (List Int))) := ((if a3 = true then (m_r_ZNeg a1 a2).bind fun (v8, v9) => (m_r_ZNeg a3 a4).bind fun (v11, v12) => some ((v8, v9, v11, v12)) else some ((a1, a2, a3, a4)))).bind fun (v14, v15, v16, v17) => (m_r_ZGcd v14 v15 v16 v17).bind fun (v18, v19) => ((if ((v19.length : Int) == 1) = true then (ix v19 0).bind fun v24 => (if (v24 == 1) = true then some (Ex.ret ((v14, v15), (v16, v17))) else some (Ex.brk ())) else some (Ex.brk ()))).bind fun o21 => (match o21 with | Ex.brk () => (m_r_over v15 v19).bind fun (v27, v28) => (m_r_over v17 v19).bind fun (v30, v31) => (m_r_signed v14 v27).bind fun (v33, v34) => (m_r_signed false v30).bind fun (v36, v37) => some ((v33, v34), (v36, v37)) | Ex.ret ((r39, r40), (r41, r42)) => some ((r39, r40), (r41, r42)))
theorem C_r_QOf {a1 : Bool} {a2 : List Int} {a3 : Bool} {a4 : List Int} {r43 : Bool} {r44 : List Int} {r45 : Bool} {r46 : List Int} (h : m_r_QOf a1 a2 a3 a4 = some ((r43, r44), (r45, r46))) : CtrG PP 161 [] [D.agg ([D.bool a1, slcE (Enc.int .i64) a2]), D.agg ([D.bool a3, slcE (Enc.int .i64) a4])] [] (D.agg ([D.bool r43, slcE (Enc.int .i64) r44, D.bool r45, slcE (Enc.int .i64) r46])) := by
  unfold m_r_QOf at h
  refine .of Go.Proofs.Tryz.func161 rfl (by kernel_rfl) rfl rfl rfl rfl rfl rfl (fun A w0 L b => ?_)
  show Ok PP _ [(0, D.agg ([D.bool a1, slcE (Enc.int .i64) a2])), (1, D.agg ([D.bool a3, slcE (Enc.int .i64) a4]))] [] _ _
  refine .reg (.bxA rfl rfl <| .bxA rfl rfl <| .alL ([D.bool false, D.nil, D.bool false, D.nil]) z_ambleref01_Q ⟨.refl _, .refl _, .refl _, .refl _, trivial⟩ rfl <| .nil) rfl ?_
  obtain ⟨o5, hp6, h⟩ := bind_some h
  refine .cutX (fun i => o5 = i) (fun (i : Bool × (List Int) × Bool × (List Int)) => [(2, D.ref 2 0), (3, D.ref 3 0), (4, D.ref 4 0)]) (fun (i : Bool × (List Int) × Bool × (List Int)) => [(2, Hp.box 35 ([D.bool i.1, slcE (Enc.int .i64) i.2.1])), (3, Hp.box 35 ([D.bool i.2.2.1, slcE (Enc.int .i64) i.2.2.2])), (4, Hp.box 37 ([D.bool false, D.nil, D.bool false, D.nil]))]) ?_ ?_
  · have ho1 := h
    clear h
    have h := hp6
    clear hp6
    refine .reg (.fa rfl f_ambleref01_Z_0 <| .ldE1 (D.bool a3) rfl rfl ly_bool rfl <| .nil) rfl ?_
    by_cases c7 : a3 = true
    · replace h := ite_pos_some c7 h
      refine .cTb rfl c7 ?_
      obtain ⟨⟨v8, v9⟩, e10, h⟩ := bind_some h
      obtain ⟨⟨v11, v12⟩, e13, h⟩ := bind_some h
      refine .regionD hmix (.ldE ([D.bool a1, slcE (Enc.int .i64) a2]) rfl rfl ly_ambleref01_Z rfl rfl <| .callG (C_r_ZNeg e10) ⟨rfl, trivial⟩ trivial trivial <| .ldE ([D.bool a3, slcE (Enc.int .i64) a4]) rfl rfl ly_ambleref01_Z rfl rfl <| .callG (C_r_ZNeg e13) ⟨rfl, trivial⟩ trivial trivial <| .stE ([D.bool v8, slcE (Enc.int .i64) v9]) rfl rfl rfl ly_ambleref01_Z rfl rfl rfl <| .stE ([D.bool v11, slcE (Enc.int .i64) v12]) rfl rfl rfl ly_ambleref01_Z rfl rfl rfl <| .nil) rfl (by kernel_rfl) (fun _ _ hs => ⟨(v8, v9, v11, v12), (Option.some.inj h).symm, hs.sub ⟨⟨_, rfl, .refl _⟩, ⟨_, rfl, .refl _⟩, ⟨_, rfl, .refl _⟩, trivial⟩ ⟨⟨_, rfl, .refl _⟩, ⟨_, rfl, .refl _⟩, ⟨_, rfl, .refl _⟩, trivial⟩ rfl rfl⟩)
    · replace h := ite_neg_some c7 h
      refine .cFb rfl c7 ?_
      refine .skip (fun _ _ hs => ⟨(a1, a2, a3, a4), (Option.some.inj h).symm, hs.sub ⟨⟨_, rfl, .refl _⟩, ⟨_, rfl, .refl _⟩, ⟨_, rfl, .refl _⟩, trivial⟩ ⟨⟨_, rfl, .refl _⟩, ⟨_, rfl, .refl _⟩, ⟨_, rfl, .refl _⟩, trivial⟩ rfl rfl⟩)
  · rintro ⟨v14, v15, v16, v17⟩ rfl
    show Ok PP _ [(2, D.ref 2 0), (3, D.ref 3 0), (4, D.ref 4 0)] [(2, Hp.box 35 ([D.bool v14, slcE (Enc.int .i64) v15])), (3, Hp.box 35 ([D.bool v16, slcE (Enc.int .i64) v17])), (4, Hp.box 37 ([D.bool false, D.nil, D.bool false, D.nil]))] _ _
    obtain ⟨⟨v18, v19⟩, e20, h⟩ := bind_some h
    refine .reg (.ldE ([D.bool v14, slcE (Enc.int .i64) v15]) rfl rfl ly_ambleref01_Z rfl rfl <| .ldE ([D.bool v16, slcE (Enc.int .i64) v17]) rfl rfl ly_ambleref01_Z rfl rfl <| .callG (C_r_ZGcd e20) ⟨rfl, rfl, trivial⟩ trivial trivial <| .alL ([D.bool false, D.nil]) z_ambleref01_Z ⟨.refl _, .refl _, trivial⟩ rfl <| .stE ([D.bool v18, slcE (Enc.int .i64) v19]) rfl rfl rfl ly_ambleref01_Z rfl rfl rfl <| .nil) rfl ?_
    obtain ⟨o21, hp22, h⟩ := bind_some h
    refine .cutX (fun i => o21 = Ex.brk i) (fun (i : Unit) => [(2, D.ref 2 0), (3, D.ref 3 0), (4, D.ref 4 0), (5, D.ref 5 0)]) (fun (i : Unit) => [(2, Hp.box 35 ([D.bool v14, slcE (Enc.int .i64) v15])), (3, Hp.box 35 ([D.bool v16, slcE (Enc.int .i64) v17])), (4, Hp.box 37 ([D.bool false, D.nil, D.bool false, D.nil])), (5, Hp.box 35 ([D.bool v18, slcE (Enc.int .i64) v19]))]) ?_ ?_
    · have ho1 := h
      clear h
      have h := hp22
      clear hp22
      by_cases c23 : ((v19.length : Int) == 1) = true
      · replace h := ite_pos_some c23 h
        obtain ⟨v24, e25, h⟩ := bind_some h
        refine .reg (.fa rfl f_ambleref01_Z_1 <| .ldE1 (slcE (Enc.int .i64) v19) rfl rfl ly_Lint rfl <| .lnE rfl is_Lint <| .cm rfl rfl rfl <| .mv rfl <| .gYt rfl rfl rfl c23 <| .fa rfl f_ambleref01_Z_1 <| .gYt rfl rfl rfl c23 <| .ldE1 (slcE (Enc.int .i64) v19) rfl rfl ly_Lint rfl <| .gYt rfl rfl rfl c23 <| .ixE rfl rfl se_Lint (ix_some e25).1 (ix_some e25).2 <| .gYt rfl rfl rfl c23 <| .lp1 rfl ly_int <| .gYt rfl rfl rfl c23 <| .cm rfl rfl rfl <| .pkTb rfl c23 rfl <| .nil) rfl ?_
        by_cases c26 : (v24 == 1) = true
        · replace h := ite_pos_some c26 h
          refine .cTb rfl c26 ?_
          refine .reg (.ldE ([D.bool v14, slcE (Enc.int .i64) v15]) rfl rfl ly_ambleref01_Z rfl rfl <| .ldE ([D.bool v16, slcE (Enc.int .i64) v17]) rfl rfl ly_ambleref01_Z rfl rfl <| .bdQ ([D.bool v14, slcE (Enc.int .i64) v15, D.bool v16, slcE (Enc.int .i64) v17]) [(0, _, D.agg ([D.bool v14, slcE (Enc.int .i64) v15]), [D.bool v14, slcE (Enc.int .i64) v15]), (2, _, D.agg ([D.bool v16, slcE (Enc.int .i64) v17]), [D.bool v16, slcE (Enc.int .i64) v17])] z_ambleref01_Q pl_ambleref01_Q ⟨rfl, rfl, .agg _, rfl, rfl, rfl, .agg _, rfl, trivial⟩ ⟨rfl, rfl, trivial⟩ ⟨.refl _, .refl _, .refl _, .refl _, trivial⟩ <| .stE ([D.bool v14, slcE (Enc.int .i64) v15, D.bool v16, slcE (Enc.int .i64) v17]) rfl rfl rfl ly_ambleref01_Q rfl rfl rfl <| .nil) rfl ?_
          cases h
          have h := ho1
          clear ho1
          cases h
          refine .retG (fun _ _ hb => hb) rfl (.cons (.agg rfl rfl ly_ambleref01_Q rfl) .nil) (.refl _) trivial trivial
        · replace h := ite_neg_some c26 h
          refine .cFb rfl c26 ?_
          refine .skip (fun _ _ hs => ⟨(), (Option.some.inj h).symm, hs.sub ⟨⟨_, rfl, .refl _⟩, ⟨_, rfl, .refl _⟩, ⟨_, rfl, .refl _⟩, ⟨_, rfl, .refl _⟩, trivial⟩ ⟨⟨_, rfl, .refl _⟩, ⟨_, rfl, .refl _⟩, ⟨_, rfl, .refl _⟩, ⟨_, rfl, .refl _⟩, trivial⟩ rfl rfl⟩)
      · replace h := ite_neg_some c23 h
        refine .reg (.fa rfl f_ambleref01_Z_1 <| .ldE1 (slcE (Enc.int .i64) v19) rfl rfl ly_Lint rfl <| .lnE rfl is_Lint <| .cm rfl rfl rfl <| .mv rfl <| .gNt rfl rfl rfl c23 <| .gNt rfl rfl rfl c23 <| .gNt rfl rfl rfl c23 <| .gNt rfl rfl rfl c23 <| .gNt rfl rfl rfl c23 <| .pkFb rfl c23 rfl <| .nil) rfl ?_
        refine .cFb rfl (by decide) ?_
        refine .skip (fun _ _ hs => ⟨(), (Option.some.inj h).symm, hs.sub ⟨⟨_, rfl, .refl _⟩, ⟨_, rfl, .refl _⟩, ⟨_, rfl, .refl _⟩, ⟨_, rfl, .refl _⟩, trivial⟩ ⟨⟨_, rfl, .refl _⟩, ⟨_, rfl, .refl _⟩, ⟨_, rfl, .refl _⟩, ⟨_, rfl, .refl _⟩, trivial⟩ rfl rfl⟩)
    · rintro ⟨⟩ rfl
      show Ok PP _ [(2, D.ref 2 0), (3, D.ref 3 0), (4, D.ref 4 0), (5, D.ref 5 0)] [(2, Hp.box 35 ([D.bool v14, slcE (Enc.int .i64) v15])), (3, Hp.box 35 ([D.bool v16, slcE (Enc.int .i64) v17])), (4, Hp.box 37 ([D.bool false, D.nil, D.bool false, D.nil])), (5, Hp.box 35 ([D.bool v18, slcE (Enc.int .i64) v19]))] _ _
      obtain ⟨⟨v27, v28⟩, e29, h⟩ := bind_some h
      refine .reg (.fa rfl f_ambleref01_Z_1 <| .ldE1 (slcE (Enc.int .i64) v15) rfl rfl ly_Lint rfl <| .fa rfl f_ambleref01_Z_1 <| .ldE1 (slcE (Enc.int .i64) v19) rfl rfl ly_Lint rfl <| .callG (C_r_over e29) ⟨rfl, rfl, trivial⟩ trivial trivial <| .mv rfl <| .ext rfl rfl <| .ext rfl rfl <| .asg rfl <| .asg rfl <| .nil) rfl ?_
      obtain ⟨⟨v30, v31⟩, e32, h⟩ := bind_some h
      refine .reg (.fa rfl f_ambleref01_Z_1 <| .ldE1 (slcE (Enc.int .i64) v17) rfl rfl ly_Lint rfl <| .fa rfl f_ambleref01_Z_1 <| .ldE1 (slcE (Enc.int .i64) v19) rfl rfl ly_Lint rfl <| .callG (C_r_over e32) ⟨rfl, rfl, trivial⟩ trivial trivial <| .mv rfl <| .ext rfl rfl <| .ext rfl rfl <| .asg rfl <| .asg rfl <| .nil) rfl ?_
      obtain ⟨⟨v33, v34⟩, e35, h⟩ := bind_some h
      obtain ⟨⟨v36, v37⟩, e38, h⟩ := bind_some h
      refine .reg (.fa rfl f_ambleref01_Z_0 <| .ldE1 (D.bool v14) rfl rfl ly_bool rfl <| .mv rfl <| .callG (C_r_signed e35) ⟨rfl, rfl, trivial⟩ trivial trivial <| .mv rfl <| .callG (C_r_signed e38) ⟨rfl, rfl, trivial⟩ trivial trivial <| .bdQ ([D.bool v33, slcE (Enc.int .i64) v34, D.bool v36, slcE (Enc.int .i64) v37]) [(0, _, D.agg ([D.bool v33, slcE (Enc.int .i64) v34]), [D.bool v33, slcE (Enc.int .i64) v34]), (2, _, D.agg ([D.bool v36, slcE (Enc.int .i64) v37]), [D.bool v36, slcE (Enc.int .i64) v37])] z_ambleref01_Q pl_ambleref01_Q ⟨rfl, rfl, .agg _, rfl, rfl, rfl, .agg _, rfl, trivial⟩ ⟨rfl, rfl, trivial⟩ ⟨.refl _, .refl _, .refl _, .refl _, trivial⟩ <| .stE ([D.bool v33, slcE (Enc.int .i64) v34, D.bool v36, slcE (Enc.int .i64) v37]) rfl rfl rfl ly_ambleref01_Q rfl rfl rfl <| .nil) rfl ?_
      cases h
      refine .retG (fun _ _ hb => hb) rfl (.cons (.agg rfl rfl ly_ambleref01_Q rfl) .nil) (.refl _) trivial trivial
def m_r_Int (a1 : Int) : Option ((Bool × (List Int)) × (Bool × (List Int))) := (m_r_ZInt a1).bind fun (v2, v3) => (m_r_ZInt 1).bind fun (v5, v6) => some ((v2, v3), (v5, v6))
theorem C_r_Int {a1 : Int} {r8 : Bool} {r9 : List Int} {r10 : Bool} {r11 : List Int} (h : m_r_Int a1 = some ((r8, r9), (r10, r11))) : CtrG PP 41 [] [D.int .i64 a1] [] (D.agg ([D.bool r8, slcE (Enc.int .i64) r9, D.bool r10, slcE (Enc.int .i64) r11])) := by
  unfold m_r_Int at h
  refine .of Go.Proofs.Tryz.func41 rfl (by kernel_rfl) rfl rfl rfl rfl rfl rfl (fun A w0 L b => ?_)
  show Ok PP _ [(0, D.int .i64 a1)] [] _ _
  refine .reg (.alL ([D.bool false, D.nil, D.bool false, D.nil]) z_ambleref01_Q ⟨.refl _, .refl _, .refl _, .refl _, trivial⟩ rfl <| .nil) rfl ?_
  obtain ⟨⟨v2, v3⟩, e4, h⟩ := bind_some h
  obtain ⟨⟨v5, v6⟩, e7, h⟩ := bind_some h
  refine .reg (.mv rfl <| .callG (C_r_ZInt e4) ⟨rfl, trivial⟩ trivial trivial <| .callG (C_r_ZInt e7) ⟨rfl, trivial⟩ trivial trivial <| .bdQ ([D.bool v2, slcE (Enc.int .i64) v3, D.bool v5, slcE (Enc.int .i64) v6]) [(0, _, D.agg ([D.bool v2, slcE (Enc.int .i64) v3]), [D.bool v2, slcE (Enc.int .i64) v3]), (2, _, D.agg ([D.bool v5, slcE (Enc.int .i64) v6]), [D.bool v5, slcE (Enc.int .i64) v6])] z_ambleref01_Q pl_ambleref01_Q ⟨rfl, rfl, .agg _, rfl, rfl, rfl, .agg _, rfl, trivial⟩ ⟨rfl, rfl, trivial⟩ ⟨.refl _, .refl _, .refl _, .refl _, trivial⟩ <| .stE ([D.bool v2, slcE (Enc.int .i64) v3, D.bool v5, slcE (Enc.int .i64) v6]) rfl rfl rfl ly_ambleref01_Q rfl rfl rfl <| .nil) rfl ?_
  cases h
  refine .retG (fun _ _ hb => hb) rfl (.cons (.agg rfl rfl ly_ambleref01_Q rfl) .nil) (.refl _) trivial trivial
def m_r_Of (a1 : Int) (a2 : Int) : Option ((Bool × (List Int)) × (Bool × (List Int))) := (m_r_ZInt a1).bind fun (v3, v4) => (m_r_ZInt a2).bind fun (v6, v7) => (m_r_QOf v3 v4 v6 v7).bind fun ((v9, v10), (v11, v12)) => some ((v9, v10), (v11, v12))
theorem C_r_Of {a1 : Int} {a2 : Int} {r14 : Bool} {r15 : List Int} {r16 : Bool} {r17 : List Int} (h : m_r_Of a1 a2 = some ((r14, r15), (r16, r17))) : CtrG PP 37 [] [D.int .i64 a1, D.int .i64 a2] [] (D.agg ([D.bool r14, slcE (Enc.int .i64) r15, D.bool r16, slcE (Enc.int .i64) r17])) := by
  unfold m_r_Of at h
  refine .of Go.Proofs.Tryz.func37 rfl (by kernel_rfl) rfl rfl rfl rfl rfl rfl (fun A w0 L b => ?_)
  show Ok PP _ [(0, D.int .i64 a1), (1, D.int .i64 a2)] [] _ _
  refine .reg (.alL ([D.bool false, D.nil, D.bool false, D.nil]) z_ambleref01_Q ⟨.refl _, .refl _, .refl _, .refl _, trivial⟩ rfl <| .nil) rfl ?_
  obtain ⟨⟨v3, v4⟩, e5, h⟩ := bind_some h
  obtain ⟨⟨v6, v7⟩, e8, h⟩ := bind_some h
  obtain ⟨⟨⟨v9, v10⟩, ⟨v11, v12⟩⟩, e13, h⟩ := bind_some h
  refine .reg (.mv rfl <| .callG (C_r_ZInt e5) ⟨rfl, trivial⟩ trivial trivial <| .mv rfl <| .callG (C_r_ZInt e8) ⟨rfl, trivial⟩ trivial trivial <| .callG (C_r_QOf e13) ⟨rfl, rfl, trivial⟩ trivial trivial <| .stE ([D.bool v9, slcE (Enc.int .i64) v10, D.bool v11, slcE (Enc.int .i64) v12]) rfl rfl rfl ly_ambleref01_Q rfl rfl rfl <| .nil) rfl ?_
  cases h
  refine .retG (fun _ _ hb => hb) rfl (.cons (.agg rfl rfl ly_ambleref01_Q rfl) .nil) (.refl _) trivial trivial
def m_r_Add (a1 : Bool) (a2 : List Int) (a3 : Bool) (a4 : List Int) (a5 : Bool) (a6 : List Int) (a7 : Bool) (a8 : List Int) : Option ((Bool × (List Int)) × (Bool × (List Int))) := (m_r_Q_den a5 a6 a7 a8).bind fun (v9, v10) => (m_r_ZMul a1 a2 v9 v10).bind fun (v12, v13) => (m_r_Q_den a1 a2 a3 a4).bind fun (v15, v16) => (m_r_ZMul a5 a6 v15 v16).bind fun (v18, v19) => (m_r_ZAdd v12 v13 v18 v19).bind fun (v21, v22) => (m_r_Q_den a1 a2 a3 a4).bind fun (v24, v25) => (m_r_Q_den a5 a6 a7 a8).bind fun (v27, v28) => (m_r_ZMul v24 v25 v27 v28).bind fun (v30, v31) => (m_r_QOf v21 v22 v30 v31).bind fun ((v33, v34), (v35, v36)) => some ((v33, v34), (v35, v36))
theorem C_r_Add {a1 : Bool} {a2 : List Int} {a3 : Bool} {a4 : List Int} {a5 : Bool} {a6 : List Int} {a7 : Bool} {a8 : List Int} {r38 : Bool} {r39 : List Int} {r40 : Bool} {r41 : List Int} (h : m_r_Add a1 a2 a3 a4 a5 a6 a7 a8 = some ((r38, r39), (r40, r41))) : CtrG PP 43 [] [D.agg ([D.bool a1, slcE (Enc.int .i64) a2, D.bool a3, slcE (Enc.int .i64) a4]), D.agg ([D.bool a5, slcE (Enc.int .i64) a6, D.bool a7, slcE (Enc.int .i64) a8])] [] (D.agg ([D.bool r38, slcE (Enc.int .i64) r39, D.bool r40, slcE (Enc.int .i64) r41])) := by
  unfold m_r_Add at h
  refine .of Go.Proofs.Tryz.func43 rfl (by kernel_rfl) rfl rfl rfl rfl rfl rfl (fun A w0 L b => ?_)
  show Ok PP _ [(0, D.agg ([D.bool a1, slcE (Enc.int .i64) a2, D.bool a3, slcE (Enc.int .i64) a4])), (1, D.agg ([D.bool a5, slcE (Enc.int .i64) a6, D.bool a7, slcE (Enc.int .i64) a8]))] [] _ _
  refine .reg (.bxA rfl rfl <| .bxA rfl rfl <| .alL ([D.bool false, D.nil, D.bool false, D.nil]) z_ambleref01_Q ⟨.refl _, .refl _, .refl _, .refl _, trivial⟩ rfl <| .nil) rfl ?_
  obtain ⟨⟨v9, v10⟩, e11, h⟩ := bind_some h
  obtain ⟨⟨v12, v13⟩, e14, h⟩ := bind_some h
  obtain ⟨⟨v15, v16⟩, e17, h⟩ := bind_some h
  obtain ⟨⟨v18, v19⟩, e20, h⟩ := bind_some h
  obtain ⟨⟨v21, v22⟩, e23, h⟩ := bind_some h
  obtain ⟨⟨v24, v25⟩, e26, h⟩ := bind_some h
  obtain ⟨⟨v27, v28⟩, e29, h⟩ := bind_some h
  obtain ⟨⟨v30, v31⟩, e32, h⟩ := bind_some h
  obtain ⟨⟨⟨v33, v34⟩, ⟨v35, v36⟩⟩, e37, h⟩ := bind_some h
  refine .regD hmix (.fa rfl f_ambleref01_Q_0 <| .ldE ([D.bool a1, slcE (Enc.int .i64) a2]) rfl rfl ly_ambleref01_Z rfl rfl <| .ldE ([D.bool a5, slcE (Enc.int .i64) a6, D.bool a7, slcE (Enc.int .i64) a8]) rfl rfl ly_ambleref01_Q rfl rfl <| .callG (C_r_Q_den e11) ⟨rfl, trivial⟩ trivial trivial <| .callG (C_r_ZMul e14) ⟨rfl, rfl, trivial⟩ trivial trivial <| .fa rfl f_ambleref01_Q_0 <| .ldE ([D.bool a5, slcE (Enc.int .i64) a6]) rfl rfl ly_ambleref01_Z rfl rfl <| .ldE ([D.bool a1, slcE (Enc.int .i64) a2, D.bool a3, slcE (Enc.int .i64) a4]) rfl rfl ly_ambleref01_Q rfl rfl <| .callG (C_r_Q_den e17) ⟨rfl, trivial⟩ trivial trivial <| .callG (C_r_ZMul e20) ⟨rfl, rfl, trivial⟩ trivial trivial <| .callG (C_r_ZAdd e23) ⟨rfl, rfl, trivial⟩ trivial trivial <| .ldE ([D.bool a1, slcE (Enc.int .i64) a2, D.bool a3, slcE (Enc.int .i64) a4]) rfl rfl ly_ambleref01_Q rfl rfl <| .callG (C_r_Q_den e26) ⟨rfl, trivial⟩ trivial trivial <| .ldE ([D.bool a5, slcE (Enc.int .i64) a6, D.bool a7, slcE (Enc.int .i64) a8]) rfl rfl ly_ambleref01_Q rfl rfl <| .callG (C_r_Q_den e29) ⟨rfl, trivial⟩ trivial trivial <| .callG (C_r_ZMul e32) ⟨rfl, rfl, trivial⟩ trivial trivial <| .callG (C_r_QOf e37) ⟨rfl, rfl, trivial⟩ trivial trivial <| .stE ([D.bool v33, slcE (Enc.int .i64) v34, D.bool v35, slcE (Enc.int .i64) v36]) rfl rfl rfl ly_ambleref01_Q rfl rfl rfl <| .nil) rfl (by kernel_rfl) ?_
  cases h
  refine .retG (fun _ _ hb => hb) rfl (.cons (.agg rfl rfl ly_ambleref01_Q rfl) .nil) (.refl _) trivial trivial
def m_r_Neg (a1 : Bool) (a2 : List Int) (a3 : Bool) (a4 : List Int) : Option ((Bool × (List Int)) × (Bool × (List Int))) := (m_r_ZNeg a1 a2).bind fun (v5, v6) => (m_r_Q_den a1 a2 a3 a4).bind fun (v8, v9) => some ((v5, v6), (v8, v9))
theorem C_r_Neg {a1 : Bool} {a2 : List Int} {a3 : Bool} {a4 : List Int} {r11 : Bool} {r12 : List Int} {r13 : Bool} {r14 : List Int} (h : m_r_Neg a1 a2 a3 a4 = some ((r11, r12), (r13, r14))) : CtrG PP 49 [] [D.agg ([D.bool a1, slcE (Enc.int .i64) a2, D.bool a3, slcE (Enc.int .i64) a4])] [] (D.agg ([D.bool r11, slcE (Enc.int .i64) r12, D.bool r13, slcE (Enc.int .i64) r14])) := by
  unfold m_r_Neg at h
  refine .of Go.Proofs.Tryz.func49 rfl (by kernel_rfl) rfl rfl rfl rfl rfl rfl (fun A w0 L b => ?_)
  show Ok PP _ [(0, D.agg ([D.bool a1, slcE (Enc.int .i64) a2, D.bool a3, slcE (Enc.int .i64) a4]))] [] _ _
  refine .reg (.bxA rfl rfl <| .alL ([D.bool false, D.nil, D.bool false, D.nil]) z_ambleref01_Q ⟨.refl _, .refl _, .refl _, .refl _, trivial⟩ rfl <| .nil) rfl ?_
  obtain ⟨⟨v5, v6⟩, e7, h⟩ := bind_some h
  obtain ⟨⟨v8, v9⟩, e10, h⟩ := bind_some h
  refine .regD hmix (.fa rfl f_ambleref01_Q_0 <| .ldE ([D.bool a1, slcE (Enc.int .i64) a2]) rfl rfl ly_ambleref01_Z rfl rfl <| .callG (C_r_ZNeg e7) ⟨rfl, trivial⟩ trivial trivial <| .ldE ([D.bool a1, slcE (Enc.int .i64) a2, D.bool a3, slcE (Enc.int .i64) a4]) rfl rfl ly_ambleref01_Q rfl rfl <| .callG (C_r_Q_den e10) ⟨rfl, trivial⟩ trivial trivial <| .bdQ ([D.bool v5, slcE (Enc.int .i64) v6, D.bool v8, slcE (Enc.int .i64) v9]) [(0, _, D.agg ([D.bool v5, slcE (Enc.int .i64) v6]), [D.bool v5, slcE (Enc.int .i64) v6]), (2, _, D.agg ([D.bool v8, slcE (Enc.int .i64) v9]), [D.bool v8, slcE (Enc.int .i64) v9])] z_ambleref01_Q pl_ambleref01_Q ⟨rfl, rfl, .agg _, rfl, rfl, rfl, .agg _, rfl, trivial⟩ ⟨rfl, rfl, trivial⟩ ⟨.refl _, .refl _, .refl _, .refl _, trivial⟩ <| .stE ([D.bool v5, slcE (Enc.int .i64) v6, D.bool v8, slcE (Enc.int .i64) v9]) rfl rfl rfl ly_ambleref01_Q rfl rfl rfl <| .nil) rfl (by kernel_rfl) ?_
  cases h
  refine .retG (fun _ _ hb => hb) rfl (.cons (.agg rfl rfl ly_ambleref01_Q rfl) .nil) (.refl _) trivial trivial
def m_r_Sub (a1 : Bool) (a2 : List Int) (a3 : Bool) (a4 : List Int) (a5 : Bool) (a6 : List Int) (a7 : Bool) (a8 : List Int) : Option ((Bool × (List Int)) × (Bool × (List Int))) := (m_r_Neg a5 a6 a7 a8).bind fun ((v9, v10), (v11, v12)) => (m_r_Add a1 a2 a3 a4 v9 v10 v11 v12).bind fun ((v14, v15), (v16, v17)) => some ((v14, v15), (v16, v17))
theorem C_r_Sub {a1 : Bool} {a2 : List Int} {a3 : Bool} {a4 : List Int} {a5 : Bool} {a6 : List Int} {a7 : Bool} {a8 : List Int} {r19 : Bool} {r20 : List Int} {r21 : Bool} {r22 : List Int} (h : m_r_Sub a1 a2 a3 a4 a5 a6 a7 a8 = some ((r19, r20), (r21, r22))) : CtrG PP 45 [] [D.agg ([D.bool a1, slcE (Enc.int .i64) a2, D.bool a3, slcE (Enc.int .i64) a4]), D.agg ([D.bool a5, slcE (Enc.int .i64) a6, D.bool a7, slcE (Enc.int .i64) a8])] [] (D.agg ([D.bool r19, slcE (Enc.int .i64) r20, D.bool r21, slcE (Enc.int .i64) r22])) := by
  unfold m_r_Sub at h
  refine .of Go.Proofs.Tryz.func45 rfl (by kernel_rfl) rfl rfl rfl rfl rfl rfl (fun A w0 L b => ?_)
  show Ok PP _ [(0, D.agg ([D.bool a1, slcE (Enc.int .i64) a2, D.bool a3, slcE (Enc.int .i64) a4])), (1, D.agg ([D.bool a5, slcE (Enc.int .i64) a6, D.bool a7, slcE (Enc.int .i64) a8]))] [] _ _
  refine .reg (.bxA rfl rfl <| .bxA rfl rfl <| .alL ([D.bool false, D.nil, D.bool false, D.nil]) z_ambleref01_Q ⟨.refl _, .refl _, .refl _, .refl _, trivial⟩ rfl <| .nil) rfl ?_
  obtain ⟨⟨⟨v9, v10⟩, ⟨v11, v12⟩⟩, e13, h⟩ := bind_some h
  obtain ⟨⟨⟨v14, v15⟩, ⟨v16, v17⟩⟩, e18, h⟩ := bind_some h
  refine .regD hmix (.ldE ([D.bool a1, slcE (Enc.int .i64) a2, D.bool a3, slcE (Enc.int .i64) a4]) rfl rfl ly_ambleref01_Q rfl rfl <| .ldE ([D.bool a5, slcE (Enc.int .i64) a6, D.bool a7, slcE (Enc.int .i64) a8]) rfl rfl ly_ambleref01_Q rfl rfl <| .callG (C_r_Neg e13) ⟨rfl, trivial⟩ trivial trivial <| .callG (C_r_Add e18) ⟨rfl, rfl, trivial⟩ trivial trivial <| .stE ([D.bool v14, slcE (Enc.int .i64) v15, D.bool v16, slcE (Enc.int .i64) v17]) rfl rfl rfl ly_ambleref01_Q rfl rfl rfl <| .nil) rfl (by kernel_rfl) ?_
  cases h
  refine .retG (fun _ _ hb => hb) rfl (.cons (.agg rfl rfl ly_ambleref01_Q rfl) .nil) (.refl _) trivial trivial
def m_r_Mul (a1 : Bool) (a2 : List Int) (a3 : Bool) (a4 : List Int) (a5 : Bool) (a6 : List Int) (a7 : Bool) (a8 : List Int) : Option ((Bool × (List Int)) × (Bool × (List Int))) := (m_r_ZMul a1 a2 a5 a6).bind fun (v9, v10) => (m_r_Q_den a1 a2 a3 a4).bind fun (v12, v13) => (m_r_Q_den a5 a6 a7 a8).bind fun (v15, v16) => (m_r_ZMul v12 v13 v15 v16).bind fun (v18, v19) => (m_r_QOf v9 v10 v18 v19).bind fun ((v21, v22), (v23, v24)) => some ((v21, v22), (v23, v24))
theorem C_r_Mul {a1 : Bool} {a2 : List Int} {a3 : Bool} {a4 : List Int} {a5 : Bool} {a6 : List Int} {a7 : Bool} {a8 : List Int} {r26 : Bool} {r27 : List Int} {r28 : Bool} {r29 : List Int} (h : m_r_Mul a1 a2 a3 a4 a5 a6 a7 a8 = some ((r26, r27), (r28, r29))) : CtrG PP 47 [] [D.agg ([D.bool a1, slcE (Enc.int .i64) a2, D.bool a3, slcE (Enc.int .i64) a4]), D.agg ([D.bool a5, slcE (Enc.int .i64) a6, D.bool a7, slcE (Enc.int .i64) a8])] [] (D.agg ([D.bool r26, slcE (Enc.int .i64) r27, D.bool r28, slcE (Enc.int .i64) r29])) := by
  unfold m_r_Mul at h
  refine .of Go.Proofs.Tryz.func47 rfl (by kernel_rfl) rfl rfl rfl rfl rfl rfl (fun A w0 L b => ?_)
  show Ok PP _ [(0, D.agg ([D.bool a1, slcE (Enc.int .i64) a2, D.bool a3, slcE (Enc.int .i64) a4])), (1, D.agg ([D.bool a5, slcE (Enc.int .i64) a6, D.bool a7, slcE (Enc.int .i64) a8]))] [] _ _
  refine .reg (.bxA rfl rfl <| .bxA rfl rfl <| .alL ([D.bool false, D.nil, D.bool false, D.nil]) z_ambleref01_Q ⟨.refl _, .refl _, .refl _, .refl _, trivial⟩ rfl <| .nil) rfl ?_
  obtain ⟨⟨v9, v10⟩, e11, h⟩ := bind_some h
  obtain ⟨⟨v12, v13⟩, e14, h⟩ := bind_some h
  obtain ⟨⟨v15, v16⟩, e17, h⟩ := bind_some h
  obtain ⟨⟨v18, v19⟩, e20, h⟩ := bind_some h
  obtain ⟨⟨⟨v21, v22⟩, ⟨v23, v24⟩⟩, e25, h⟩ := bind_some h
  refine .regD hmix (.fa rfl f_ambleref01_Q_0 <| .ldE ([D.bool a1, slcE (Enc.int .i64) a2]) rfl rfl ly_ambleref01_Z rfl rfl <| .fa rfl f_ambleref01_Q_0 <| .ldE ([D.bool a5, slcE (Enc.int .i64) a6]) rfl rfl ly_ambleref01_Z rfl rfl <| .callG (C_r_ZMul e11) ⟨rfl, rfl, trivial⟩ trivial trivial <| .ldE ([D.bool a1, slcE (Enc.int .i64) a2, D.bool a3, slcE (Enc.int .i64) a4]) rfl rfl ly_ambleref01_Q rfl rfl <| .callG (C_r_Q_den e14) ⟨rfl, trivial⟩ trivial trivial <| .ldE ([D.bool a5, slcE (Enc.int .i64) a6, D.bool a7, slcE (Enc.int .i64) a8]) rfl rfl ly_ambleref01_Q rfl rfl <| .callG (C_r_Q_den e17) ⟨rfl, trivial⟩ trivial trivial <| .callG (C_r_ZMul e20) ⟨rfl, rfl, trivial⟩ trivial trivial <| .callG (C_r_QOf e25) ⟨rfl, rfl, trivial⟩ trivial trivial <| .stE ([D.bool v21, slcE (Enc.int .i64) v22, D.bool v23, slcE (Enc.int .i64) v24]) rfl rfl rfl ly_ambleref01_Q rfl rfl rfl <| .nil) rfl (by kernel_rfl) ?_
  cases h
  refine .retG (fun _ _ hb => hb) rfl (.cons (.agg rfl rfl ly_ambleref01_Q rfl) .nil) (.refl _) trivial trivial
def m_r_Div (a1 : Bool) (a2 : List Int) (a3 : Bool) (a4 : List Int) (a5 : Bool) (a6 : List Int) (a7 : Bool) (a8 : List Int) : Option ((Bool × (List Int)) × (Bool × (List Int))) := (m_r_Q_den a5 a6 a7 a8).bind fun (v9, v10) => (m_r_ZMul a1 a2 v9 v10).bind fun (v12, v13) => (m_r_Q_den a1 a2 a3 a4).bind fun (v15, v16) => (m_r_ZMul v15 v16 a5 a6).bind fun (v18, v19) => (m_r_QOf v12 v13 v18 v19).bind fun ((v21, v22), (v23, v24)) => some ((v21, v22), (v23, v24))
theorem C_r_Div {a1 : Bool} {a2 : List Int} {a3 : Bool} {a4 : List Int} {a5 : Bool} {a6 : List Int} {a7 : Bool} {a8 : List Int} {r26 : Bool} {r27 : List Int} {r28 : Bool} {r29 : List Int} (h : m_r_Div a1 a2 a3 a4 a5 a6 a7 a8 = some ((r26, r27), (r28, r29))) : CtrG PP 39 [] [D.agg ([D.bool a1, slcE (Enc.int .i64) a2, D.bool a3, slcE (Enc.int .i64) a4]), D.agg ([D.bool a5, slcE (Enc.int .i64) a6, D.bool a7, slcE (Enc.int .i64) a8])] [] (D.agg ([D.bool r26, slcE (Enc.int .i64) r27, D.bool r28, slcE (Enc.int .i64) r29])) := by
  unfold m_r_Div at h
  refine .of Go.Proofs.Tryz.func39 rfl (by kernel_rfl) rfl rfl rfl rfl rfl rfl (fun A w0 L b => ?_)
  show Ok PP _ [(0, D.agg ([D.bool a1, slcE (Enc.int .i64) a2, D.bool a3, slcE (Enc.int .i64) a4])), (1, D.agg ([D.bool a5, slcE (Enc.int .i64) a6, D.bool a7, slcE (Enc.int .i64) a8]))] [] _ _
  refine .reg (.bxA rfl rfl <| .bxA rfl rfl <| .alL ([D.bool false, D.nil, D.bool false, D.nil]) z_ambleref01_Q ⟨.refl _, .refl _, .refl _, .refl _, trivial⟩ rfl <| .nil) rfl ?_
  obtain ⟨⟨v9, v10⟩, e11, h⟩ := bind_some h
  obtain ⟨⟨v12, v13⟩, e14, h⟩ := bind_some h
  obtain ⟨⟨v15, v16⟩, e17, h⟩ := bind_some h
  obtain ⟨⟨v18, v19⟩, e20, h⟩ := bind_some h
  obtain ⟨⟨⟨v21, v22⟩, ⟨v23, v24⟩⟩, e25, h⟩ := bind_some h
  refine .regD hmix (.fa rfl f_ambleref01_Q_0 <| .ldE ([D.bool a1, slcE (Enc.int .i64) a2]) rfl rfl ly_ambleref01_Z rfl rfl <| .ldE ([D.bool a5, slcE (Enc.int .i64) a6, D.bool a7, slcE (Enc.int .i64) a8]) rfl rfl ly_ambleref01_Q rfl rfl <| .callG (C_r_Q_den e11) ⟨rfl, trivial⟩ trivial trivial <| .callG (C_r_ZMul e14) ⟨rfl, rfl, trivial⟩ trivial trivial <| .ldE ([D.bool a1, slcE (Enc.int .i64) a2, D.bool a3, slcE (Enc.int .i64) a4]) rfl rfl ly_ambleref01_Q rfl rfl <| .callG (C_r_Q_den e17) ⟨rfl, trivial⟩ trivial trivial <| .fa rfl f_ambleref01_Q_0 <| .ldE ([D.bool a5, slcE (Enc.int .i64) a6]) rfl rfl ly_ambleref01_Z rfl rfl <| .callG (C_r_ZMul e20) ⟨rfl, rfl, trivial⟩ trivial trivial <| .callG (C_r_QOf e25) ⟨rfl, rfl, trivial⟩ trivial trivial <| .stE ([D.bool v21, slcE (Enc.int .i64) v22, D.bool v23, slcE (Enc.int .i64) v24]) rfl rfl rfl ly_ambleref01_Q rfl rfl rfl <| .nil) rfl (by kernel_rfl) ?_
  cases h
  refine .retG (fun _ _ hb => hb) rfl (.cons (.agg rfl rfl ly_ambleref01_Q rfl) .nil) (.refl _) trivial trivial
def m_r_Abs (a1 : Bool) (a2 : List Int) (a3 : Bool) (a4 : List Int) : Option ((Bool × (List Int)) × (Bool × (List Int))) := (m_r_signed false a2).bind fun (v5, v6) => (m_r_Q_den a1 a2 a3 a4).bind fun (v8, v9) => some ((v5, v6), (v8, v9))
theorem C_r_Abs {a1 : Bool} {a2 : List Int} {a3 : Bool} {a4 : List Int} {r11 : Bool} {r12 : List Int} {r13 : Bool} {r14 : List Int} (h : m_r_Abs a1 a2 a3 a4 = some ((r11, r12), (r13, r14))) : CtrG PP 51 [] [D.agg ([D.bool a1, slcE (Enc.int .i64) a2, D.bool a3, slcE (Enc.int .i64) a4])] [] (D.agg ([D.bool r11, slcE (Enc.int .i64) r12, D.bool r13, slcE (Enc.int .i64) r14])) := by
  unfold m_r_Abs at h
  refine .of Go.Proofs.Tryz.func51 rfl (by kernel_rfl) rfl rfl rfl rfl rfl rfl (fun A w0 L b => ?_)
  show Ok PP _ [(0, D.agg ([D.bool a1, slcE (Enc.int .i64) a2, D.bool a3, slcE (Enc.int .i64) a4]))] [] _ _
  refine .reg (.bxA rfl rfl <| .alL ([D.bool false, D.nil, D.bool false, D.nil]) z_ambleref01_Q ⟨.refl _, .refl _, .refl _, .refl _, trivial⟩ rfl <| .nil) rfl ?_
  obtain ⟨⟨v5, v6⟩, e7, h⟩ := bind_some h
  obtain ⟨⟨v8, v9⟩, e10, h⟩ := bind_some h
  refine .regD hmix (.fa rfl f_ambleref01_Q_0 <| .fa rfl f_ambleref01_Z_1 <| .ldE1 (slcE (Enc.int .i64) a2) rfl rfl ly_Lint rfl <| .callG (C_r_signed e7) ⟨rfl, rfl, trivial⟩ trivial trivial <| .ldE ([D.bool a1, slcE (Enc.int .i64) a2, D.bool a3, slcE (Enc.int .i64) a4]) rfl rfl ly_ambleref01_Q rfl rfl <| .callG (C_r_Q_den e10) ⟨rfl, trivial⟩ trivial trivial <| .bdQ ([D.bool v5, slcE (Enc.int .i64) v6, D.bool v8, slcE (Enc.int .i64) v9]) [(0, _, D.agg ([D.bool v5, slcE (Enc.int .i64) v6]), [D.bool v5, slcE (Enc.int .i64) v6]), (2, _, D.agg ([D.bool v8, slcE (Enc.int .i64) v9]), [D.bool v8, slcE (Enc.int .i64) v9])] z_ambleref01_Q pl_ambleref01_Q ⟨rfl, rfl, .agg _, rfl, rfl, rfl, .agg _, rfl, trivial⟩ ⟨rfl, rfl, trivial⟩ ⟨.refl _, .refl _, .refl _, .refl _, trivial⟩ <| .stE ([D.bool v5, slcE (Enc.int .i64) v6, D.bool v8, slcE (Enc.int .i64) v9]) rfl rfl rfl ly_ambleref01_Q rfl rfl rfl <| .nil) rfl (by kernel_rfl) ?_
  cases h
  refine .retG (fun _ _ hb => hb) rfl (.cons (.agg rfl rfl ly_ambleref01_Q rfl) .nil) (.refl _) trivial trivial
def m_r_Cmp (a1 : Bool) (a2 : List Int) (a3 : Bool) (a4 : List Int) (a5 : Bool) (a6 : List Int) (a7 : Bool) (a8 : List Int) : Option Int := (m_r_Q_den a5 a6 a7 a8).bind fun (v9, v10) => (m_r_ZMul a1 a2 v9 v10).bind fun (v12, v13) => (m_r_Q_den a1 a2 a3 a4).bind fun (v15, v16) => (m_r_ZMul a5 a6 v15 v16).bind fun (v18, v19) => (m_r_ZCmp v12 v13 v18 v19).bind fun v21 => some v21
theorem C_r_Cmp {a1 : Bool} {a2 : List Int} {a3 : Bool} {a4 : List Int} {a5 : Bool} {a6 : List Int} {a7 : Bool} {a8 : List Int} {r23 : Int} (h : m_r_Cmp a1 a2 a3 a4 a5 a6 a7 a8 = some r23) : CtrG PP 52 [] [D.agg ([D.bool a1, slcE (Enc.int .i64) a2, D.bool a3, slcE (Enc.int .i64) a4]), D.agg ([D.bool a5, slcE (Enc.int .i64) a6, D.bool a7, slcE (Enc.int .i64) a8])] [] (D.int .i64 r23) := by
  unfold m_r_Cmp at h
  refine .of Go.Proofs.Tryz.func52 rfl (by kernel_rfl) rfl rfl rfl rfl rfl rfl (fun A w0 L b => ?_)
  show Ok PP _ [(0, D.agg ([D.bool a1, slcE (Enc.int .i64) a2, D.bool a3, slcE (Enc.int .i64) a4])), (1, D.agg ([D.bool a5, slcE (Enc.int .i64) a6, D.bool a7, slcE (Enc.int .i64) a8]))] [] _ _
  refine .reg (.bxA rfl rfl <| .bxA rfl rfl <| .asg rfl <| .nil) rfl ?_
  obtain ⟨⟨v9, v10⟩, e11, h⟩ := bind_some h
  obtain ⟨⟨v12, v13⟩, e14, h⟩ := bind_some h
  obtain ⟨⟨v15, v16⟩, e17, h⟩ := bind_some h
  obtain ⟨⟨v18, v19⟩, e20, h⟩ := bind_some h
  obtain ⟨v21, e22, h⟩ := bind_some h
  refine .regD hmix (.fa rfl f_ambleref01_Q_0 <| .ldE ([D.bool a1, slcE (Enc.int .i64) a2]) rfl rfl ly_ambleref01_Z rfl rfl <| .ldE ([D.bool a5, slcE (Enc.int .i64) a6, D.bool a7, slcE (Enc.int .i64) a8]) rfl rfl ly_ambleref01_Q rfl rfl <| .callG (C_r_Q_den e11) ⟨rfl, trivial⟩ trivial trivial <| .callG (C_r_ZMul e14) ⟨rfl, rfl, trivial⟩ trivial trivial <| .fa rfl f_ambleref01_Q_0 <| .ldE ([D.bool a5, slcE (Enc.int .i64) a6]) rfl rfl ly_ambleref01_Z rfl rfl <| .ldE ([D.bool a1, slcE (Enc.int .i64) a2, D.bool a3, slcE (Enc.int .i64) a4]) rfl rfl ly_ambleref01_Q rfl rfl <| .callG (C_r_Q_den e17) ⟨rfl, trivial⟩ trivial trivial <| .callG (C_r_ZMul e20) ⟨rfl, rfl, trivial⟩ trivial trivial <| .callG (C_r_ZCmp e22) ⟨rfl, rfl, trivial⟩ trivial trivial <| .asg rfl <| .nil) rfl (by kernel_rfl) ?_
  cases h
  refine .retG (fun _ _ hb => hb) rfl (.cons (.tmp rfl) .nil) (.refl _) trivial trivial
def m_r_Sign (a1 : Bool) (a2 : List Int) (a3 : Bool) (a4 : List Int) : Option Int := (m_r_ZCmp a1 a2 false ([])).bind fun v5 => some v5
theorem C_r_Sign {a1 : Bool} {a2 : List Int} {a3 : Bool} {a4 : List Int} {r7 : Int} (h : m_r_Sign a1 a2 a3 a4 = some r7) : CtrG PP 31 [] [D.agg ([D.bool a1, slcE (Enc.int .i64) a2, D.bool a3, slcE (Enc.int .i64) a4])] [] (D.int .i64 r7) := by
  unfold m_r_Sign at h
  refine .of Go.Proofs.Tryz.func31 rfl (by kernel_rfl) rfl rfl rfl rfl rfl rfl (fun A w0 L b => ?_)
  show Ok PP _ [(0, D.agg ([D.bool a1, slcE (Enc.int .i64) a2, D.bool a3, slcE (Enc.int .i64) a4]))] [] _ _
  refine .reg (.bxA rfl rfl <| .asg rfl <| .nil) rfl ?_
  obtain ⟨v5, e6, h⟩ := bind_some h
  refine .reg (.fa rfl f_ambleref01_Q_0 <| .ldE ([D.bool a1, slcE (Enc.int .i64) a2]) rfl rfl ly_ambleref01_Z rfl rfl <| .bdQ ([D.bool false, D.nil]) [] z_ambleref01_Z pl_ambleref01_Z trivial trivial ⟨.refl _, .refl _, trivial⟩ <| .callL [D.agg ([D.bool a1, slcE (Enc.int .i64) a2]), D.agg ([D.bool false, D.nil])] (C_r_ZCmp e6) ⟨rfl, rfl, trivial⟩ ⟨.refl _, .agg ⟨.refl _, .nilE _, trivial⟩, trivial⟩ trivial trivial <| .asg rfl <| .nil) rfl ?_
  cases h
  refine .retG (fun _ _ hb => hb) rfl (.cons (.tmp rfl) .nil) (.refl _) trivial trivial
def m_r_Text (a1 : Bool) (a2 : List Int) (a3 : Bool) (a4 : List Int) : Option (List UInt8) := (m_r_ZText a1 a2).bind fun v5 => (m_r_Q_den a1 a2 a3 a4).bind fun (v7, v8) => (m_r_ZText v7 v8).bind fun v10 => (if (v10 == ([49] : List UInt8)) = true then some v5 else must (v5.length + ([47] : List UInt8).length ≤ 9223372036854775807) (must ((v5 ++ ([47] : List UInt8)).length + v10.length ≤ 9223372036854775807) (some ((v5 ++ ([47] : List UInt8)) ++ v10))))
theorem C_r_Text {a1 : Bool} {a2 : List Int} {a3 : Bool} {a4 : List Int} {r15 : List UInt8} (h : m_r_Text a1 a2 a3 a4 = some r15) : CtrG PP 162 [] [D.agg ([D.bool a1, slcE (Enc.int .i64) a2, D.bool a3, slcE (Enc.int .i64) a4])] [] (strD r15) := by
  unfold m_r_Text at h
  refine .of Go.Proofs.Tryz.func162 rfl (by kernel_rfl) rfl rfl rfl rfl rfl rfl (fun A w0 L b => ?_)
  show Ok PP _ [(0, D.agg ([D.bool a1, slcE (Enc.int .i64) a2, D.bool a3, slcE (Enc.int .i64) a4]))] [] _ _
  refine .reg (.bxA rfl rfl <| .asg rfl <| .nil) rfl ?_
  obtain ⟨v5, e6, h⟩ := bind_some h
  refine .reg (.fa rfl f_ambleref01_Q_0 <| .ldE ([D.bool a1, slcE (Enc.int .i64) a2]) rfl rfl ly_ambleref01_Z rfl rfl <| .callG (C_r_ZText e6) ⟨rfl, trivial⟩ trivial trivial <| .asg rfl <| .nil) rfl ?_
  obtain ⟨⟨v7, v8⟩, e9, h⟩ := bind_some h
  obtain ⟨v10, e11, h⟩ := bind_some h
  refine .reg (.ldE ([D.bool a1, slcE (Enc.int .i64) a2, D.bool a3, slcE (Enc.int .i64) a4]) rfl rfl ly_ambleref01_Q rfl rfl <| .callG (C_r_Q_den e9) ⟨rfl, trivial⟩ trivial trivial <| .callG (C_r_ZText e11) ⟨rfl, trivial⟩ trivial trivial <| .asg rfl <| .nil) rfl ?_
  refine .sq ?_
  refine .reg (.mv rfl <| .teq rfl rfl <| .nil) rfl ?_
  by_cases c12 : (v10 == ([49] : List UInt8)) = true
  · replace h := ite_pos_some c12 h
    refine .cTb rfl c12 ?_
    refine .reg (.mv rfl <| .asg rfl <| .nil) rfl ?_
    cases h
    refine .retG (fun _ _ hb => hb) rfl (.cons (.tmp rfl) .nil) (.refl _) trivial trivial
  · replace h := ite_neg_some c12 h
    refine .cFb rfl c12 ?_
    refine .skip (Ok.on ?_)
    obtain ⟨k13, h⟩ := must_some h
    obtain ⟨k14, h⟩ := must_some h
    refine .reg (.mv rfl <| .tcat rfl rfl k13 <| .mv rfl <| .tcat rfl rfl k14 <| .asg rfl <| .nil) rfl ?_
    cases h
    refine .retG (fun _ _ hb => hb) rfl (.cons (.tmp rfl) .nil) (.refl _) trivial trivial
def m_r_Floor (a1 : Bool) (a2 : List Int) (a3 : Bool) (a4 : List Int) : Option (Bool × (List Int)) := (m_r_Q_den a1 a2 a3 a4).bind fun (v5, v6) => (m_r_ZFloor a1 a2 v5 v6).bind fun ((v8, v9), (v10, v11)) => some (v8, v9)
theorem C_r_Floor {a1 : Bool} {a2 : List Int} {a3 : Bool} {a4 : List Int} {r13 : Bool} {r14 : List Int} (h : m_r_Floor a1 a2 a3 a4 = some (r13, r14)) : CtrG PP 79 [] [D.agg ([D.bool a1, slcE (Enc.int .i64) a2, D.bool a3, slcE (Enc.int .i64) a4])] [] (D.agg ([D.bool r13, slcE (Enc.int .i64) r14])) := by
  unfold m_r_Floor at h
  refine .of Go.Proofs.Tryz.func79 rfl (by kernel_rfl) rfl rfl rfl rfl rfl rfl (fun A w0 L b => ?_)
  show Ok PP _ [(0, D.agg ([D.bool a1, slcE (Enc.int .i64) a2, D.bool a3, slcE (Enc.int .i64) a4]))] [] _ _
  refine .reg (.bxA rfl rfl <| .alL ([D.bool false, D.nil]) z_ambleref01_Z ⟨.refl _, .refl _, trivial⟩ rfl <| .nil) rfl ?_
  obtain ⟨⟨v5, v6⟩, e7, h⟩ := bind_some h
  obtain ⟨⟨⟨v8, v9⟩, ⟨v10, v11⟩⟩, e12, h⟩ := bind_some h
  refine .regD hmix (.fa rfl f_ambleref01_Q_0 <| .ldE ([D.bool a1, slcE (Enc.int .i64) a2]) rfl rfl ly_ambleref01_Z rfl rfl <| .ldE ([D.bool a1, slcE (Enc.int .i64) a2, D.bool a3, slcE (Enc.int .i64) a4]) rfl rfl ly_ambleref01_Q rfl rfl <| .callG (C_r_Q_den e7) ⟨rfl, trivial⟩ trivial trivial <| .callG (C_r_ZFloor e12) ⟨rfl, rfl, trivial⟩ trivial trivial <| .mv rfl <| .ext rfl rfl <| .ext rfl rfl <| .alL ([D.bool false, D.nil]) z_ambleref01_Z ⟨.refl _, .refl _, trivial⟩ rfl <| .alL ([D.bool false, D.nil]) z_ambleref01_Z ⟨.refl _, .refl _, trivial⟩ rfl <| .stE ([D.bool v8, slcE (Enc.int .i64) v9]) rfl rfl rfl ly_ambleref01_Z rfl rfl rfl <| .stE ([D.bool v10, slcE (Enc.int .i64) v11]) rfl rfl rfl ly_ambleref01_Z rfl rfl rfl <| .nil) rfl (by kernel_rfl) ?_
  refine .reg (.ldE ([D.bool v8, slcE (Enc.int .i64) v9]) rfl rfl ly_ambleref01_Z rfl rfl <| .stE ([D.bool v8, slcE (Enc.int .i64) v9]) rfl rfl rfl ly_ambleref01_Z rfl rfl rfl <| .nil) rfl ?_
  cases h
  refine .retG (fun _ _ hb => hb) rfl (.cons (.agg rfl rfl ly_ambleref01_Z rfl) .nil) (.refl _) trivial trivial
def m_r_Whole (a1 : Bool) (a2 : List Int) : Option ((Bool × (List Int)) × (Bool × (List Int))) := (m_r_ZInt 1).bind fun (v3, v4) => some ((a1, a2), (v3, v4))
theorem C_r_Whole {a1 : Bool} {a2 : List Int} {r6 : Bool} {r7 : List Int} {r8 : Bool} {r9 : List Int} (h : m_r_Whole a1 a2 = some ((r6, r7), (r8, r9))) : CtrG PP 74 [] [D.agg ([D.bool a1, slcE (Enc.int .i64) a2])] [] (D.agg ([D.bool r6, slcE (Enc.int .i64) r7, D.bool r8, slcE (Enc.int .i64) r9])) := by
  unfold m_r_Whole at h
  refine .of Go.Proofs.Tryz.func74 rfl (by kernel_rfl) rfl rfl rfl rfl rfl rfl (fun A w0 L b => ?_)
  show Ok PP _ [(0, D.agg ([D.bool a1, slcE (Enc.int .i64) a2]))] [] _ _
  refine .reg (.bxA rfl rfl <| .alL ([D.bool false, D.nil, D.bool false, D.nil]) z_ambleref01_Q ⟨.refl _, .refl _, .refl _, .refl _, trivial⟩ rfl <| .nil) rfl ?_
  obtain ⟨⟨v3, v4⟩, e5, h⟩ := bind_some h
  refine .regD hmix (.ldE ([D.bool a1, slcE (Enc.int .i64) a2]) rfl rfl ly_ambleref01_Z rfl rfl <| .callG (C_r_ZInt e5) ⟨rfl, trivial⟩ trivial trivial <| .bdQ ([D.bool a1, slcE (Enc.int .i64) a2, D.bool v3, slcE (Enc.int .i64) v4]) [(0, _, D.agg ([D.bool a1, slcE (Enc.int .i64) a2]), [D.bool a1, slcE (Enc.int .i64) a2]), (2, _, D.agg ([D.bool v3, slcE (Enc.int .i64) v4]), [D.bool v3, slcE (Enc.int .i64) v4])] z_ambleref01_Q pl_ambleref01_Q ⟨rfl, rfl, .agg _, rfl, rfl, rfl, .agg _, rfl, trivial⟩ ⟨rfl, rfl, trivial⟩ ⟨.refl _, .refl _, .refl _, .refl _, trivial⟩ <| .stE ([D.bool a1, slcE (Enc.int .i64) a2, D.bool v3, slcE (Enc.int .i64) v4]) rfl rfl rfl ly_ambleref01_Q rfl rfl rfl <| .nil) rfl (by kernel_rfl) ?_
  cases h
  refine .retG (fun _ _ hb => hb) rfl (.cons (.agg rfl rfl ly_ambleref01_Q rfl) .nil) (.refl _) trivial trivial
def m_r_Ceil (a1 : Bool) (a2 : List Int) (a3 : Bool) (a4 : List Int) : Option (Bool × (List Int)) := (m_r_Neg a1 a2 a3 a4).bind fun ((v5, v6), (v7, v8)) => (m_r_Floor v5 v6 v7 v8).bind fun (v10, v11) => (m_r_ZNeg v10 v11).bind fun (v13, v14) => some (v13, v14)
theorem C_r_Ceil {a1 : Bool} {a2 : List Int} {a3 : Bool} {a4 : List Int} {r16 : Bool} {r17 : List Int} (h : m_r_Ceil a1 a2 a3 a4 = some (r16, r17)) : CtrG PP 81 [] [D.agg ([D.bool a1, slcE (Enc.int .i64) a2, D.bool a3, slcE (Enc.int .i64) a4])] [] (D.agg ([D.bool r16, slcE (Enc.int .i64) r17])) := by
  unfold m_r_Ceil at h
  refine .of Go.Proofs.Tryz.func81 rfl (by kernel_rfl) rfl rfl rfl rfl rfl rfl (fun A w0 L b => ?_)
  show Ok PP _ [(0, D.agg ([D.bool a1, slcE (Enc.int .i64) a2, D.bool a3, slcE (Enc.int .i64) a4]))] [] _ _
  refine .reg (.bxA rfl rfl <| .alL ([D.bool false, D.nil]) z_ambleref01_Z ⟨.refl _, .refl _, trivial⟩ rfl <| .nil) rfl ?_
  obtain ⟨⟨⟨v5, v6⟩, ⟨v7, v8⟩⟩, e9, h⟩ := bind_some h
  obtain ⟨⟨v10, v11⟩, e12, h⟩ := bind_some h
  obtain ⟨⟨v13, v14⟩, e15, h⟩ := bind_some h
  refine .reg (.ldE ([D.bool a1, slcE (Enc.int .i64) a2, D.bool a3, slcE (Enc.int .i64) a4]) rfl rfl ly_ambleref01_Q rfl rfl <| .callG (C_r_Neg e9) ⟨rfl, trivial⟩ trivial trivial <| .callG (C_r_Floor e12) ⟨rfl, trivial⟩ trivial trivial <| .callG (C_r_ZNeg e15) ⟨rfl, trivial⟩ trivial trivial <| .stE ([D.bool v13, slcE (Enc.int .i64) v14]) rfl rfl rfl ly_ambleref01_Z rfl rfl rfl <| .nil) rfl ?_
  cases h
  refine .retG (fun _ _ hb => hb) rfl (.cons (.agg rfl rfl ly_ambleref01_Z rfl) .nil) (.refl _) trivial trivial
def m_r_ZRoot_l1 (a1 : Bool) (a2 : List Int) (v9 : Bool) (v10 : List Int) (v11 : Bool) (v12 : List Int) : Option (St (Bool × (List Int) × Bool × (List Int)) (Bool × (List Int))) := (m_r_ZSub v11 v12 v9 v10).bind fun (v17, v18) => (m_r_ZInt 1).bind fun (v20, v21) => (m_r_ZCmp v17 v18 v20 v21).bind fun v23 => (if (decide (v23 > 0)) = true then (m_r_ZAdd v9 v10 v11 v12).bind fun (v26, v27) => (m_r_ZInt 2).bind fun (v29, v30) => (m_r_ZFloor v26 v27 v29 v30).bind fun ((v32, v33), (v34, v35)) => (m_r_ZMul v32 v33 v32 v33).bind fun (v37, v38) => (m_r_ZCmp v37 v38 a1 a2).bind fun v40 => (if (decide (v40 ≤ 0)) = true then some (St.next (v32, v33, v11, v12)) else some (St.next (v9, v10, v32, v33))) else some (St.done (v9, v10)))
def m_r_ZRoot (a1 : Bool) (a2 : List Int) : Option (Bool × (List Int)) := (m_r_ZInt 1).bind fun (v3, v4) => (m_r_ZAdd a1 a2 v3 v4).bind fun (v6, v7) => (Loop (fun (s : Bool × (List Int) × Bool × (List Int)) => m_r_ZRoot_l1 a1 a2 s.1 s.2.1 s.2.2.1 s.2.2.2) (false, [], v6, v7)).bind fun (v43, v44) => some (v43, v44)
theorem C_r_ZRoot {a1 : Bool} {a2 : List Int} {r45 : Bool} {r46 : List Int} (h : m_r_ZRoot a1 a2 = some (r45, r46)) : CtrG PP 175 [] [D.agg ([D.bool a1, slcE (Enc.int .i64) a2])] [] (D.agg ([D.bool r45, slcE (Enc.int .i64) r46])) := by
  unfold m_r_ZRoot at h
  refine .of Go.Proofs.Tryz.func175 rfl (by kernel_rfl) rfl rfl rfl rfl rfl rfl (fun A w0 L b => ?_)
  show Ok PP _ [(0, D.agg ([D.bool a1, slcE (Enc.int .i64) a2]))] [] _ _
  refine .reg (.bxA rfl rfl <| .alL ([D.bool false, D.nil]) z_ambleref01_Z ⟨.refl _, .refl _, trivial⟩ rfl <| .nil) rfl ?_
  obtain ⟨⟨v3, v4⟩, e5, h⟩ := bind_some h
  obtain ⟨⟨v6, v7⟩, e8, h⟩ := bind_some h
  refine .regD hmix (.bdQ ([D.bool false, D.nil]) [] z_ambleref01_Z pl_ambleref01_Z trivial trivial ⟨.refl _, .refl _, trivial⟩ <| .ldE ([D.bool a1, slcE (Enc.int .i64) a2]) rfl rfl ly_ambleref01_Z rfl rfl <| .callG (C_r_ZInt e5) ⟨rfl, trivial⟩ trivial trivial <| .callG (C_r_ZAdd e8) ⟨rfl, rfl, trivial⟩ trivial trivial <| .alL ([D.bool false, D.nil]) z_ambleref01_Z ⟨.refl _, .refl _, trivial⟩ rfl <| .alL ([D.bool false, D.nil]) z_ambleref01_Z ⟨.refl _, .refl _, trivial⟩ rfl <| .stE ([D.bool false, D.nil]) rfl rfl rfl ly_ambleref01_Z rfl rfl rfl <| .stE ([D.bool v6, slcE (Enc.int .i64) v7]) rfl rfl rfl ly_ambleref01_Z rfl rfl rfl <| .nil) rfl (by kernel_rfl) ?_
  obtain ⟨o13, hl14, h⟩ := bind_some h
  refine .cutX (fun i => o13 = i) (fun (i : Bool × (List Int)) => [(2, D.ref 2 0), (3, D.ref 3 0)]) (fun (i : Bool × (List Int)) => [(2, Hp.box 35 ([D.bool false, D.nil])), (3, Hp.box 35 ([D.bool i.1, slcE (Enc.int .i64) i.2]))]) ?_ ?_
  · have ho1 := h
    clear h
    refine .block (.loopL (fun (s : Bool × (List Int) × Bool × (List Int)) => [(1, D.ref 1 0), (2, D.ref 2 0), (3, D.ref 3 0), (4, D.ref 4 0)]) (fun (s : Bool × (List Int) × Bool × (List Int)) => [(1, Hp.box 35 ([D.bool a1, slcE (Enc.int .i64) a2])), (2, Hp.box 35 ([D.bool false, D.nil])), (3, Hp.box 35 ([D.bool s.1, slcE (Enc.int .i64) s.2.1])), (4, Hp.box 35 ([D.bool s.2.2.1, slcE (Enc.int .i64) s.2.2.2]))]) hl14 ⟨⟨_, rfl, .refl _⟩, ⟨_, rfl, .refl _⟩, ⟨_, rfl, .refl _⟩, ⟨_, rfl, .refl _⟩, trivial⟩ ⟨⟨_, rfl, .refl _⟩, ⟨_, rfl, .refl _⟩, ⟨_, rfl, .box ⟨.refl _, .nilE _, trivial⟩⟩, ⟨_, rfl, .refl _⟩, trivial⟩ rfl rfl ?_)
    rintro ⟨v9, v10, v11, v12⟩ st15 hb16
    have h : m_r_ZRoot_l1 a1 a2 v9 v10 v11 v12 = some st15 := hb16
    clear hb16
    unfold m_r_ZRoot_l1 at h
    show Ok PP _ [(1, D.ref 1 0), (2, D.ref 2 0), (3, D.ref 3 0), (4, D.ref 4 0)] [(1, Hp.box 35 ([D.bool a1, slcE (Enc.int .i64) a2])), (2, Hp.box 35 ([D.bool false, D.nil])), (3, Hp.box 35 ([D.bool v9, slcE (Enc.int .i64) v10])), (4, Hp.box 35 ([D.bool v11, slcE (Enc.int .i64) v12]))] _ _
    refine .sq ?_
    obtain ⟨⟨v17, v18⟩, e19, h⟩ := bind_some h
    obtain ⟨⟨v20, v21⟩, e22, h⟩ := bind_some h
    obtain ⟨v23, e24, h⟩ := bind_some h
    refine .reg (.ldE ([D.bool v11, slcE (Enc.int .i64) v12]) rfl rfl ly_ambleref01_Z rfl rfl <| .ldE ([D.bool v9, slcE (Enc.int .i64) v10]) rfl rfl ly_ambleref01_Z rfl rfl <| .callG (C_r_ZSub e19) ⟨rfl, rfl, trivial⟩ trivial trivial <| .callG (C_r_ZInt e22) ⟨rfl, trivial⟩ trivial trivial <| .callG (C_r_ZCmp e24) ⟨rfl, rfl, trivial⟩ trivial trivial <| .cm rfl rfl rfl <| .nil) rfl ?_
    by_cases c25 : (decide (v23 > 0)) = true
    · replace h := ite_pos_some c25 h
      refine .cTb rfl c25 ?_
      refine .skip (Ok.on ?_)
      refine .block ?_
      obtain ⟨⟨v26, v27⟩, e28, h⟩ := bind_some h
      obtain ⟨⟨v29, v30⟩, e31, h⟩ := bind_some h
      obtain ⟨⟨⟨v32, v33⟩, ⟨v34, v35⟩⟩, e36, h⟩ := bind_some h
      refine .reg (.ldE ([D.bool v9, slcE (Enc.int .i64) v10]) rfl rfl ly_ambleref01_Z rfl rfl <| .ldE ([D.bool v11, slcE (Enc.int .i64) v12]) rfl rfl ly_ambleref01_Z rfl rfl <| .callG (C_r_ZAdd e28) ⟨rfl, rfl, trivial⟩ trivial trivial <| .callG (C_r_ZInt e31) ⟨rfl, trivial⟩ trivial trivial <| .callG (C_r_ZFloor e36) ⟨rfl, rfl, trivial⟩ trivial trivial <| .mv rfl <| .ext rfl rfl <| .ext rfl rfl <| .alL ([D.bool false, D.nil]) z_ambleref01_Z ⟨.refl _, .refl _, trivial⟩ rfl <| .alL ([D.bool false, D.nil]) z_ambleref01_Z ⟨.refl _, .refl _, trivial⟩ rfl <| .stE ([D.bool v32, slcE (Enc.int .i64) v33]) rfl rfl rfl ly_ambleref01_Z rfl rfl rfl <| .stE ([D.bool v34, slcE (Enc.int .i64) v35]) rfl rfl rfl ly_ambleref01_Z rfl rfl rfl <| .nil) rfl ?_
      obtain ⟨⟨v37, v38⟩, e39, h⟩ := bind_some h
      obtain ⟨v40, e41, h⟩ := bind_some h
      refine .regD hmix (.ldE ([D.bool v32, slcE (Enc.int .i64) v33]) rfl rfl ly_ambleref01_Z rfl rfl <| .ldE ([D.bool v32, slcE (Enc.int .i64) v33]) rfl rfl ly_ambleref01_Z rfl rfl <| .callG (C_r_ZMul e39) ⟨rfl, rfl, trivial⟩ trivial trivial <| .ldE ([D.bool a1, slcE (Enc.int .i64) a2]) rfl rfl ly_ambleref01_Z rfl rfl <| .callG (C_r_ZCmp e41) ⟨rfl, rfl, trivial⟩ trivial trivial <| .cm rfl rfl rfl <| .nil) rfl (by kernel_rfl) ?_
      by_cases c42 : (decide (v40 ≤ 0)) = true
      · replace h := ite_pos_some c42 h
        refine .cTb rfl c42 ?_
        refine .region (.ldE ([D.bool v32, slcE (Enc.int .i64) v33]) rfl rfl ly_ambleref01_Z rfl rfl <| .stE ([D.bool v32, slcE (Enc.int .i64) v33]) rfl rfl rfl ly_ambleref01_Z rfl rfl rfl <| .nil) rfl (fun _ _ hs => ⟨(v32, v33, v11, v12), (Option.some.inj h).symm, hs.sub ⟨⟨_, rfl, .refl _⟩, ⟨_, rfl, .refl _⟩, ⟨_, rfl, .refl _⟩, ⟨_, rfl, .refl _⟩, trivial⟩ ⟨⟨_, rfl, .refl _⟩, ⟨_, rfl, .refl _⟩, ⟨_, rfl, .refl _⟩, ⟨_, rfl, .refl _⟩, trivial⟩ rfl rfl⟩)
      · replace h := ite_neg_some c42 h
        refine .cFb rfl c42 ?_
        refine .region (.ldE ([D.bool v32, slcE (Enc.int .i64) v33]) rfl rfl ly_ambleref01_Z rfl rfl <| .stE ([D.bool v32, slcE (Enc.int .i64) v33]) rfl rfl rfl ly_ambleref01_Z rfl rfl rfl <| .nil) rfl (fun _ _ hs => ⟨(v9, v10, v32, v33), (Option.some.inj h).symm, hs.sub ⟨⟨_, rfl, .refl _⟩, ⟨_, rfl, .refl _⟩, ⟨_, rfl, .refl _⟩, ⟨_, rfl, .refl _⟩, trivial⟩ ⟨⟨_, rfl, .refl _⟩, ⟨_, rfl, .refl _⟩, ⟨_, rfl, .refl _⟩, ⟨_, rfl, .refl _⟩, trivial⟩ rfl rfl⟩)
    · replace h := ite_neg_some c25 h
      refine .cFb rfl c25 ?_
      refine .exit (fun _ _ hs => ⟨_, (Option.some.inj h).symm, fun e => ⟨(v9, v10), e.symm, hs.sub ⟨⟨_, rfl, .refl _⟩, ⟨_, rfl, .refl _⟩, trivial⟩ ⟨⟨_, rfl, .refl _⟩, ⟨_, rfl, .refl _⟩, trivial⟩ rfl rfl⟩⟩)
  · rintro ⟨v43, v44⟩ rfl
    show Ok PP _ [(2, D.ref 2 0), (3, D.ref 3 0)] [(2, Hp.box 35 ([D.bool false, D.nil])), (3, Hp.box 35 ([D.bool v43, slcE (Enc.int .i64) v44]))] _ _
    refine .reg (.ldE ([D.bool v43, slcE (Enc.int .i64) v44]) rfl rfl ly_ambleref01_Z rfl rfl <| .stE ([D.bool v43, slcE (Enc.int .i64) v44]) rfl rfl rfl ly_ambleref01_Z rfl rfl rfl <| .nil) rfl ?_
    cases h
    refine .retG (fun _ _ hb => hb) rfl (.cons (.agg rfl rfl ly_ambleref01_Z rfl) .nil) (.refl _) trivial trivial
def m_r_Fine_l1 (a1 : Int) (v9 : Int) (v10 : Bool) (v11 : List Int) (v12 : Bool) (v13 : List Int) : Option (St (Int × Bool × (List Int) × Bool × (List Int)) (Bool × (List Int) × Bool × (List Int))) := (if (decide (v9 < a1)) = true then (m_r_Add v10 v11 v12 v13 v10 v11 v12 v13).bind fun ((v19, v20), (v21, v22)) => some (St.next ((IntKind.i64.wrap (v9 + 1)), v19, v20, v21, v22)) else some (St.done (v10, v11, v12, v13)))
def m_r_Fine (a1 : Int) : Option ((Bool × (List Int)) × (Bool × (List Int))) := (m_r_Int 1).bind fun ((v2, v3), (v4, v5)) => ((Loop (fun (s : Int × Bool × (List Int) × Bool × (List Int)) => m_r_Fine_l1 a1 s.1 s.2.1 s.2.2.1 s.2.2.2.1 s.2.2.2.2) (0, v2, v3, v4, v5)).bind fun (v24, v25, v26, v27) => some ((v24, v25, v26, v27))).bind fun (v28, v29, v30, v31) => some ((v28, v29), (v30, v31))
theorem C_r_Fine {a1 : Int} {r32 : Bool} {r33 : List Int} {r34 : Bool} {r35 : List Int} (h : m_r_Fine a1 = some ((r32, r33), (r34, r35))) : CtrG PP 174 [] [D.int .i64 a1] [] (D.agg ([D.bool r32, slcE (Enc.int .i64) r33, D.bool r34, slcE (Enc.int .i64) r35])) := by
  unfold m_r_Fine at h
  refine .of Go.Proofs.Tryz.func174 rfl (by kernel_rfl) rfl rfl rfl rfl rfl rfl (fun A w0 L b => ?_)
  show Ok PP _ [(0, D.int .i64 a1)] [] _ _
  refine .reg (.alL ([D.bool false, D.nil, D.bool false, D.nil]) z_ambleref01_Q ⟨.refl _, .refl _, .refl _, .refl _, trivial⟩ rfl <| .nil) rfl ?_
  obtain ⟨⟨⟨v2, v3⟩, ⟨v4, v5⟩⟩, e6, h⟩ := bind_some h
  refine .reg (.callG (C_r_Int e6) ⟨rfl, trivial⟩ trivial trivial <| .alL ([D.bool false, D.nil, D.bool false, D.nil]) z_ambleref01_Q ⟨.refl _, .refl _, .refl _, .refl _, trivial⟩ rfl <| .stE ([D.bool v2, slcE (Enc.int .i64) v3, D.bool v4, slcE (Enc.int .i64) v5]) rfl rfl rfl ly_ambleref01_Q rfl rfl rfl <| .nil) rfl ?_
  obtain ⟨o7, hp8, h⟩ := bind_some h
  refine .cutX (fun i => o7 = i) (fun (i : Bool × (List Int) × Bool × (List Int)) => [(2, D.ref 2 0), (3, D.ref 3 0)]) (fun (i : Bool × (List Int) × Bool × (List Int)) => [(2, Hp.box 37 ([D.bool false, D.nil, D.bool false, D.nil])), (3, Hp.box 37 ([D.bool i.1, slcE (Enc.int .i64) i.2.1, D.bool i.2.2.1, slcE (Enc.int .i64) i.2.2.2]))]) ?_ ?_
  · have ho1 := h
    clear h
    have h := hp8
    clear hp8
    refine .reg (.asg rfl <| .nil) rfl ?_
    obtain ⟨o14, hl15, h⟩ := bind_some h
    have ho2 := h
    clear h
    refine .block (.loopL (fun (s : Int × Bool × (List Int) × Bool × (List Int)) => [(0, D.int .i64 a1), (2, D.ref 2 0), (3, D.ref 3 0), (4, D.int .i64 s.1)]) (fun (s : Int × Bool × (List Int) × Bool × (List Int)) => [(2, Hp.box 37 ([D.bool false, D.nil, D.bool false, D.nil])), (3, Hp.box 37 ([D.bool s.2.1, slcE (Enc.int .i64) s.2.2.1, D.bool s.2.2.2.1, slcE (Enc.int .i64) s.2.2.2.2]))]) hl15 ⟨⟨_, rfl, .refl _⟩, ⟨_, rfl, .refl _⟩, ⟨_, rfl, .refl _⟩, ⟨_, rfl, .refl _⟩, trivial⟩ ⟨⟨_, rfl, .refl _⟩, ⟨_, rfl, .refl _⟩, trivial⟩ rfl rfl ?_)
    rintro ⟨v9, v10, v11, v12, v13⟩ st16 hb17
    have h : m_r_Fine_l1 a1 v9 v10 v11 v12 v13 = some st16 := hb17
    clear hb17
    unfold m_r_Fine_l1 at h
    show Ok PP _ [(0, D.int .i64 a1), (2, D.ref 2 0), (3, D.ref 3 0), (4, D.int .i64 v9)] [(2, Hp.box 37 ([D.bool false, D.nil, D.bool false, D.nil])), (3, Hp.box 37 ([D.bool v10, slcE (Enc.int .i64) v11, D.bool v12, slcE (Enc.int .i64) v13]))] _ _
    refine .sq ?_
    refine .reg (.mv rfl <| .mv rfl <| .cm rfl rfl rfl <| .nil) rfl ?_
    by_cases c18 : (decide (v9 < a1)) = true
    · replace h := ite_pos_some c18 h
      refine .cTb rfl c18 ?_
      refine .skip (Ok.on ?_)
      refine .sq ?_
      refine .block ?_
      obtain ⟨⟨⟨v19, v20⟩, ⟨v21, v22⟩⟩, e23, h⟩ := bind_some h
      refine .region (.ldE ([D.bool v10, slcE (Enc.int .i64) v11, D.bool v12, slcE (Enc.int .i64) v13]) rfl rfl ly_ambleref01_Q rfl rfl <| .ldE ([D.bool v10, slcE (Enc.int .i64) v11, D.bool v12, slcE (Enc.int .i64) v13]) rfl rfl ly_ambleref01_Q rfl rfl <| .callG (C_r_Add e23) ⟨rfl, rfl, trivial⟩ trivial trivial <| .stE ([D.bool v19, slcE (Enc.int .i64) v20, D.bool v21, slcE (Enc.int .i64) v22]) rfl rfl rfl ly_ambleref01_Q rfl rfl rfl <| .nil) rfl (Ok.on ?_)
      refine .region (.mv rfl <| .ar rfl rfl rfl <| .asg rfl <| .nil) rfl (fun _ _ hs => ⟨((IntKind.i64.wrap (v9 + 1)), v19, v20, v21, v22), (Option.some.inj h).symm, hs.sub ⟨⟨_, rfl, .refl _⟩, ⟨_, rfl, .refl _⟩, ⟨_, rfl, .refl _⟩, ⟨_, rfl, .refl _⟩, trivial⟩ ⟨⟨_, rfl, .refl _⟩, ⟨_, rfl, .refl _⟩, trivial⟩ rfl rfl⟩)
    · replace h := ite_neg_some c18 h
      refine .cFb rfl c18 ?_
      refine .exit (fun a w hs => ⟨_, (Option.some.inj h).symm, fun e => by subst e; have h := ho2; exact blk_exit (⟨(v10, v11, v12, v13), (Option.some.inj h).symm, hs.sub ⟨⟨_, rfl, .refl _⟩, ⟨_, rfl, .refl _⟩, trivial⟩ ⟨⟨_, rfl, .refl _⟩, ⟨_, rfl, .refl _⟩, trivial⟩ rfl rfl⟩)⟩)
  · rintro ⟨v28, v29, v30, v31⟩ rfl
    show Ok PP _ [(2, D.ref 2 0), (3, D.ref 3 0)] [(2, Hp.box 37 ([D.bool false, D.nil, D.bool false, D.nil])), (3, Hp.box 37 ([D.bool v28, slcE (Enc.int .i64) v29, D.bool v30, slcE (Enc.int .i64) v31]))] _ _
    refine .reg (.ldE ([D.bool v28, slcE (Enc.int .i64) v29, D.bool v30, slcE (Enc.int .i64) v31]) rfl rfl ly_ambleref01_Q rfl rfl <| .stE ([D.bool v28, slcE (Enc.int .i64) v29, D.bool v30, slcE (Enc.int .i64) v31]) rfl rfl rfl ly_ambleref01_Q rfl rfl rfl <| .nil) rfl ?_
    cases h
    refine .retG (fun _ _ hb => hb) rfl (.cons (.agg rfl rfl ly_ambleref01_Q rfl) .nil) (.refl _) trivial trivial
end
end Go.Am
namespace Go.Am
open Go.RowKit
abbrev denL (d : Nat) (l : List Int) : Prop := l = dg10 d ∨ (d = 1 ∧ l = [])
abbrev rqL (x : Rat) (l : List Int) : D := .agg [.bool (decide (x.num < 0)), slcE (Enc.int .i64) (dg10 x.num.natAbs), .bool false, slcE (Enc.int .i64) l]
theorem rq_open {x : Rat} {ε : Env} {w : World} {S : Reg} {v : Value} (h : (rqD x).p ε w S v) : ∃ l, denL x.den l ∧ (rqL x l).p ε w S v := by
  obtain ⟨cs, e, h1, ha⟩ := h
  rcases cs with _ | ⟨c1, _ | ⟨c2, _ | ⟨c3, _ | ⟨c4, cs⟩⟩⟩⟩
  · exact ha.elim
  · exact ha.2.elim
  · exact ha.2.2.elim
  · exact ha.2.2.2.elim
  · obtain ⟨a1, a2, a3, ⟨l, hl, hp⟩, a5⟩ := ha
    exact ⟨l, hl, _, e, h1, a1, a2, a3, hp, a5⟩
theorem CtrG.any {P : Program} {f : FuncId} {ds : List D} {d : D} {ι : Type} (dsi : ι → List D) (Q : ι → Prop) (i0 : ι) (h0 : Q i0) (h : ∀ i, Q i → CtrG P f [] (dsi i) [] d) (hn : nms ds = nms (dsi i0))
    (hc : ∀ ε w S vs, all2 ε w S ds vs → ∃ i, Q i ∧ all2 ε w S (dsi i) vs) : CtrG P f [] ds [] d where
  ok := (h i0 h0).ok
  nmd := by rw [hn]; exact (h i0 h0).nmd
  nmi := (h i0 h0).nmi
  nmo := (h i0 h0).nmo
  nmr := (h i0 h0).nmr
  keep := (h i0 h0).keep
  calls := by
    intro A w ε φ vs h1 h2 h3 hv
    obtain ⟨i, hq, hv'⟩ := hc _ _ _ _ hv
    exact (h i hq).calls A w ε φ vs h1 h2 h3 hv'
theorem CtrG.rq1 {P : Program} {f : FuncId} {a : Rat} {ds : List D} {d : D} (h : ∀ l, denL a.den l → CtrG P f [] (rqL a l :: ds) [] d) : CtrG P f [] (rqD a :: ds) [] d := by
  refine .any (fun l => rqL a l :: ds) (denL a.den) (dg10 a.den) (.inl rfl) h rfl ?_
  intro ε w S vs hv
  cases vs with
  | nil => exact hv.elim
  | cons v vs =>
    obtain ⟨l, hl, hp⟩ := rq_open hv.1
    exact ⟨l, hl, hp, hv.2⟩
theorem CtrG.rq2 {P : Program} {f : FuncId} {a b : Rat} {ds : List D} {d : D} (h : ∀ l m, denL a.den l → denL b.den m → CtrG P f [] (rqL a l :: rqL b m :: ds) [] d) : CtrG P f [] (rqD a :: rqD b :: ds) [] d := by
  refine .any (fun (x : List Int × List Int) => rqL a x.1 :: rqL b x.2 :: ds) (fun x => denL a.den x.1 ∧ denL b.den x.2) (dg10 a.den, dg10 b.den) ⟨.inl rfl, .inl rfl⟩ (fun x hx => h _ _ hx.1 hx.2) rfl ?_
  intro ε w S vs hv
  cases vs with
  | nil => exact hv.elim
  | cons v vs =>
    cases vs with
    | nil => exact hv.2.elim
    | cons v' vs =>
      obtain ⟨l, hl, hp⟩ := rq_open hv.1
      obtain ⟨m, hm, hp'⟩ := rq_open hv.2.1
      exact ⟨(l, m), ⟨hl, hm⟩, hp, hp', hv.2.2⟩
theorem CtrG.outR {P : Program} {f : FuncId} {ds : List D} {d d' : D} (h : CtrG P f [] ds [] d) (hd : Le d d') : CtrG P f [] ds [] d' := (h.plain.out hd).gen
theorem denD_of {d : Nat} : Le (slcE (Enc.int .i64) (dg10 d)) (denD d) := ⟨fun _ _ _ _ h => ⟨_, .inl rfl, h⟩, fun r hr => by cases hr⟩
theorem rq_close (x : Rat) : Le (rqL x (dg10 x.den)) (rqD x) := .agg ⟨.refl _, .refl _, .refl _, denD_of, trivial⟩
abbrev zz (z : Int) : Bool × List Int := (decide (z < 0), dg10 z.natAbs)
abbrev rr (x : Rat) : (Bool × List Int) × (Bool × List Int) := (zz x.num, (false, dg10 x.den))
theorem den_dg (d : Nat) (h : d ≠ 0) : ((dg10 d).length : Int) ≠ 0 := by
  have : (dg10 d).length ≠ 0 := fun k => h (dg10_len0.1 k)
  omega
theorem one_z : m_r_ZInt 1 = some (false, dg10 1) := ZInt_is 1 (by unfold i64r; omega)
theorem r_Q_den_is (a : Rat) (neg : Bool) (n : List Int) {l : List Int} (h : denL a.den l) : m_r_Q_den neg n false l = some (false, dg10 a.den) := by
  unfold m_r_Q_den
  rcases h with rfl | ⟨h1, rfl⟩
  · rw [if_neg (by rw [beq_iff_eq]; exact den_dg _ a.den_nz)]
  · rw [if_pos (by decide), one_z, h1]; rfl
theorem dg10_small {x : Nat} (h0 : x ≠ 0) (h : x < 10000) : dg10 x = [(x : Int)] := by
  rw [dg10_pos h0, Nat.mod_eq_of_lt h, Nat.div_eq_of_lt h, dg10_zero]
theorem one_test (g : Nat) (h0 : g ≠ 0) : (if (((dg10 g).length : Int) == 1) = true then (ix (dg10 g) 0).bind fun v24 => (if (v24 == 1) = true then some true else some false) else some false) = some (decide (g = 1)) := by
  by_cases h1 : g = 1
  · subst h1
    rw [dg10_small (by decide) (by decide)]; rfl
  · by_cases hl : (((dg10 g).length : Int) == 1) = true
    · rw [if_pos hl]
      have hl2 : (dg10 g).length = 1 := by rw [beq_iff_eq] at hl; omega
      have hlt := dg10_bd g
      rw [hl2] at hlt
      have e : dg10 g = [(g : Int)] := dg10_small h0 (by omega)
      rw [e]
      have : ix [(g : Int)] 0 = some (g : Int) := rfl
      rw [this, Option.bind_some, if_neg (by rw [beq_iff_eq]; omega), decide_eq_false h1]
    · rw [if_neg hl, decide_eq_false h1]
theorem one_sel {α : Type} (g : Nat) (h0 : g ≠ 0) (x y : α) : (if (((dg10 g).length : Int) == 1) = true then (ix (dg10 g) 0).bind fun v24 => (if (v24 == 1) = true then some x else some y) else some y) = some (if g = 1 then x else y) := by
  have h := one_test g h0
  by_cases hl : (((dg10 g).length : Int) == 1) = true
  · rw [if_pos hl] at h ⊢
    obtain ⟨v, e, h⟩ := bind_some h
    rw [e, Option.bind_some]
    by_cases hv : (v == 1) = true
    · rw [if_pos hv] at h ⊢
      injection h with h
      rw [if_pos (of_decide_eq_true h.symm)]
    · rw [if_neg hv] at h ⊢
      injection h with h
      rw [if_neg (of_decide_eq_false h.symm)]
  · rw [if_neg hl] at h ⊢
    injection h with h
    rw [if_neg (of_decide_eq_false h.symm)]
theorem QOf_pos (z : Int) (d : Nat) (hd : d ≠ 0) (hz : sm z.natAbs) (hs : sm d) : m_r_QOf (decide (z < 0)) (dg10 z.natAbs) false (dg10 d) = some (rr (mkRat z d)) := by
  obtain ⟨e1, e2⟩ := quot_parts z d hd
  have hg0 : Nat.gcd z.natAbs d ≠ 0 := fun h => hd (Nat.eq_zero_of_gcd_eq_zero_right h)
  have hgd : Nat.gcd z.natAbs d ∣ d := Nat.gcd_dvd_right _ _
  have hgs : sm (Nat.gcd z.natAbs d) := sm_le (Nat.le_of_dvd (Nat.pos_of_ne_zero hd) hgd) hs
  have hsg := sg_div z _ (Nat.gcd_dvd_left z.natAbs d)
  unfold m_r_QOf
  rw [if_neg (by decide), Option.bind_some]
  dsimp only
  rw [ZGcd_is _ _ _ _ hz hs, Option.bind_some]
  dsimp only
  rw [one_sel _ hg0, Option.bind_some]
  unfold rr zz
  rw [e1, e2]
  generalize Nat.gcd z.natAbs d = g at *
  by_cases h1 : g = 1
  · rw [if_pos h1]
    dsimp only
    subst h1
    rw [Int.natCast_one, Int.ediv_one, Nat.div_one]
  · rw [if_neg h1]
    dsimp only
    rw [over_is _ _ hg0 hz hgs, Option.bind_some, over_is _ _ hg0 hs hgs]
    simp only [Option.bind_some]
    rw [signed_is, hsg]
    simp only [Option.bind_some]
    rw [signed_is, sg_abs]
    have : decide (sg false (d / g) < 0) = false := by unfold sg; rw [if_neg (by decide)]; exact nat_lt0 _
    rw [this]; rfl
theorem QOf_is (z w : Int) (hw : w ≠ 0) (hz : sm z.natAbs) (hs : sm w.natAbs) : m_r_QOf (decide (z < 0)) (dg10 z.natAbs) (decide (w < 0)) (dg10 w.natAbs) = some (rr (Rat.divInt z w)) := by
  by_cases h : w < 0
  · have e : m_r_QOf (decide (z < 0)) (dg10 z.natAbs) (decide (w < 0)) (dg10 w.natAbs) = m_r_QOf (decide (-z < 0)) (dg10 (-z).natAbs) (decide (-w < 0)) (dg10 (-w).natAbs) := by
      unfold m_r_QOf
      rw [if_pos (decide_eq_true h), if_neg (by simp; omega), ZNeg_is, ZNeg_is]
      rfl
    obtain ⟨d, hd⟩ : ∃ d : Nat, -w = (d : Int) := ⟨(-w).toNat, by omega⟩
    have h1 := QOf_pos (-z) d (by omega) (by rw [Int.natAbs_neg]; exact hz) (by rw [← Int.natAbs_neg, hd, Int.natAbs_natCast] at hs; exact hs)
    rw [e, hd, nat_lt0, Int.natAbs_natCast, h1, ← Rat.divInt_ofNat, ← hd, Rat.neg_divInt_neg]
  · obtain ⟨d, rfl⟩ := Int.eq_ofNat_of_zero_le (show 0 ≤ w by omega)
    rw [nat_lt0, Int.natAbs_natCast, QOf_pos z d (by omega) hz hs, ← Rat.divInt_ofNat]
theorem r_Int_is (n : Int) (h : i64r n) : m_r_Int n = some (rr (n : Rat)) := by
  unfold m_r_Int rr
  rw [ZInt_is n h, Option.bind_some]
  dsimp only
  rw [one_z, Rat.num_intCast, Rat.den_intCast]; rfl
theorem r_Of_is (n d : Int) (h : i64r n) (k : i64r d) (h0 : d ≠ 0) : m_r_Of n d = some (rr ((n : Rat) / (d : Rat))) := by
  unfold m_r_Of
  rw [ZInt_is n h, Option.bind_some]
  dsimp only
  rw [ZInt_is d k, Option.bind_some]
  dsimp only
  rw [QOf_is n d h0 (i64_sm h) (i64_sm k), Rat.divInt_eq_div]; rfl
theorem mul_den (a b : Rat) (z : Int) (hz : sm z.natAbs) (hd : sm b.den) : m_r_ZMul (decide (z < 0)) (dg10 z.natAbs) false (dg10 b.den) = some (zz (z * b.den)) := by
  have := ZMul_is z (b.den : Int) hz (by rw [Int.natAbs_natCast]; exact hd)
  rw [nat_lt0, Int.natAbs_natCast] at this
  exact this
theorem den_den (a b : Rat) (ha : sm a.den) (hb : sm b.den) : m_r_ZMul false (dg10 a.den) false (dg10 b.den) = some (false, dg10 (a.den * b.den)) := by
  have := ZMul_is (a.den : Int) (b.den : Int) (by rw [Int.natAbs_natCast]; exact ha) (by rw [Int.natAbs_natCast]; exact hb)
  rw [nat_lt0, nat_lt0, Int.natAbs_natCast, Int.natAbs_natCast, ← Int.natCast_mul, nat_lt0, Int.natAbs_natCast] at this
  exact this
section
variable {l m : List Int}
theorem r_Add_is (a b : Rat) (h : qw a) (k : qw b) (hl : denL a.den l) (hm : denL b.den m) : m_r_Add (decide (a.num < 0)) (dg10 a.num.natAbs) false l (decide (b.num < 0)) (dg10 b.num.natAbs) false m = some (rr (a + b)) := by
  unfold m_r_Add
  rw [r_Q_den_is a _ _ hl, r_Q_den_is b _ _ hm]
  simp only [Option.bind_some]
  rw [mul_den a b _ (qs_smn h) (qs_smd k)]
  simp only [Option.bind_some]
  rw [mul_den b a _ (qs_smn k) (qs_smd h)]
  simp only [Option.bind_some]
  rw [ZAdd_is _ _ (sm_of (nd_bd h k) (by omega)) (sm_of (nd_bd k h) (by omega))]
  simp only [Option.bind_some]
  rw [den_den a b (qs_smd h) (qs_smd k)]
  simp only [Option.bind_some]
  rw [QOf_pos _ _ (Nat.mul_ne_zero a.den_nz b.den_nz) (sm_of (blen_natAbs_add (nd_bd h k) (nd_bd k h)) (by omega)) (sm_of (dd_bd h k) (by omega)), ← Rat.add_def']
  rfl
theorem r_Neg_is (a : Rat) (hl : denL a.den l) : m_r_Neg (decide (a.num < 0)) (dg10 a.num.natAbs) false l = some (rr (-a)) := by
  unfold m_r_Neg rr
  rw [ZNeg_is, r_Q_den_is a _ _ hl, Rat.neg_num, Rat.neg_den]; rfl
theorem r_Sub_is (a b : Rat) (h : qw a) (k : qw b) (hl : denL a.den l) (hm : denL b.den m) : m_r_Sub (decide (a.num < 0)) (dg10 a.num.natAbs) false l (decide (b.num < 0)) (dg10 b.num.natAbs) false m = some (rr (a - b)) := by
  unfold m_r_Sub
  rw [r_Neg_is b hm]
  simp only [Option.bind_some, rr, zz]
  rw [r_Add_is a (-b) h (by rw [sz_neg]; exact k) hl (.inl rfl), ← Rat.sub_eq_add_neg]; rfl
theorem r_Mul_is (a b : Rat) (h : qw a) (k : qw b) (hl : denL a.den l) (hm : denL b.den m) : m_r_Mul (decide (a.num < 0)) (dg10 a.num.natAbs) false l (decide (b.num < 0)) (dg10 b.num.natAbs) false m = some (rr (a * b)) := by
  unfold m_r_Mul
  rw [ZMul_is _ _ (qs_smn h) (qs_smn k), r_Q_den_is a _ _ hl, r_Q_den_is b _ _ hm]
  simp only [Option.bind_some]
  rw [den_den a b (qs_smd h) (qs_smd k)]
  simp only [Option.bind_some]
  rw [QOf_pos _ _ (Nat.mul_ne_zero a.den_nz b.den_nz) (sm_of (nn_bd h k) (by omega)) (sm_of (dd_bd h k) (by omega)), ← Rat.mul_def']
  rfl
theorem div_divInt (a b : Rat) : a / b = Rat.divInt (a.num * b.den) (a.den * b.num) := by
  have ea := Rat.num_divInt_den a
  rw [Rat.div_def, Rat.inv_def]
  conv => lhs; rw [← ea]
  rw [Rat.divInt_mul_divInt]
theorem r_Div_is (a b : Rat) (hb : b ≠ 0) (h : qw a) (k : qw b) (hl : denL a.den l) (hm : denL b.den m) : m_r_Div (decide (a.num < 0)) (dg10 a.num.natAbs) false l (decide (b.num < 0)) (dg10 b.num.natAbs) false m = some (rr (a / b)) := by
  have hn : b.num ≠ 0 := fun h => hb (Rat.num_eq_zero.1 h)
  unfold m_r_Div
  rw [r_Q_den_is a _ _ hl, r_Q_den_is b _ _ hm]
  simp only [Option.bind_some]
  rw [mul_den a b _ (qs_smn h) (qs_smd k)]
  simp only [Option.bind_some]
  have e := ZMul_is (a.den : Int) b.num (by rw [Int.natAbs_natCast]; exact qs_smd h) (qs_smn k)
  rw [nat_lt0, Int.natAbs_natCast] at e
  rw [e]
  simp only [Option.bind_some]
  have hb2 : blen ((a.den : Int) * b.num).natAbs ≤ 4000000000000 := by
    rw [Int.natAbs_mul, Int.natAbs_natCast]; exact Nat.le_trans (blen_mul_le (qs_den h) (qs_num k)) (by omega)
  rw [QOf_is _ _ (Int.mul_ne_zero (by have := a.den_nz; omega) hn) (sm_of (nd_bd h k) (by omega)) (sm_of hb2 (by omega)), ← div_divInt]
  rfl
theorem r_Abs_is (a : Rat) (hl : denL a.den l) : m_r_Abs (decide (a.num < 0)) (dg10 a.num.natAbs) false l = some (rr (if a < 0 then -a else a)) := by
  have h1 := num_neg_iff a
  unfold m_r_Abs rr zz
  rw [signed_is, r_Q_den_is a _ _ hl]
  simp only [Option.bind_some]
  have e1 : decide (sg false a.num.natAbs < 0) = false := by unfold sg; rw [if_neg (by decide)]; exact nat_lt0 _
  rw [e1, sg_abs]
  by_cases h : a < 0
  · have := h1.2 h
    rw [if_pos h, Rat.neg_num, Rat.neg_den, Int.natAbs_neg, decide_eq_false (p := -a.num < 0) (by omega)]
  · have := fun k => h (h1.1 k)
    rw [if_neg h, decide_eq_false (p := a.num < 0) this]
theorem r_Cmp_is (a b : Rat) (h : qw a) (k : qw b) (hl : denL a.den l) (hm : denL b.den m) : m_r_Cmp (decide (a.num < 0)) (dg10 a.num.natAbs) false l (decide (b.num < 0)) (dg10 b.num.natAbs) false m = some (cmpq a b) := by
  unfold m_r_Cmp
  rw [r_Q_den_is a _ _ hl, r_Q_den_is b _ _ hm]
  simp only [Option.bind_some]
  rw [mul_den a b _ (qs_smn h) (qs_smd k)]
  simp only [Option.bind_some]
  rw [mul_den b a _ (qs_smn k) (qs_smd h)]
  simp only [Option.bind_some]
  rw [ZCmp_is _ _ (sm_of (nd_bd h k) (by omega)) (sm_of (nd_bd k h) (by omega)), cmpq_eq]; rfl
theorem r_Floor_is (a : Rat) (h : qw a) (hl : denL a.den l) : m_r_Floor (decide (a.num < 0)) (dg10 a.num.natAbs) false l = some (zz a.floor) := by
  unfold m_r_Floor
  rw [r_Q_den_is a _ _ hl]
  simp only [Option.bind_some]
  rw [ZFloor_is _ _ _ a.den_nz (qs_smn h) (qs_smd h), Rat.floor_def]; rfl
theorem r_Whole_is (z : Int) : m_r_Whole (decide (z < 0)) (dg10 z.natAbs) = some (rr (z : Rat)) := by
  unfold m_r_Whole rr
  rw [one_z, Rat.num_intCast, Rat.den_intCast]; rfl
theorem r_Ceil_is (a : Rat) (h : qw a) (hl : denL a.den l) : m_r_Ceil (decide (a.num < 0)) (dg10 a.num.natAbs) false l = some (zz a.ceil) := by
  unfold m_r_Ceil
  rw [r_Neg_is a hl]
  simp only [Option.bind_some, rr, zz]
  rw [r_Floor_is (-a) (by rw [sz_neg]; exact h) (.inl rfl)]
  simp only [Option.bind_some, zz]
  rw [ZNeg_is, Rat.ceil_eq_neg_floor_neg]; rfl
end
end Go.Am
namespace Go.Am
open Go.RowKit
section
variable {l m : List Int}
theorem dR_len1 {d : Nat} (h : (dR d).length = 1) : d < 10 ∧ d ≠ 0 := by
  have h0 : d ≠ 0 := by intro e; subst e; rw [dR_zero] at h; simp at h
  rw [dR_pos h0, List.length_cons] at h
  have h1 : (dR (d / 10)).length = 0 := by omega
  refine ⟨?_, h0⟩
  apply Nat.lt_of_not_le
  intro hc
  have : d / 10 ≠ 0 := by omega
  rw [dR_pos this] at h1; simp at h1
theorem decL_one {d : Nat} (h : d ≠ 0) : (decL d == ([49] : List UInt8)) = decide (d = 1) := by
  by_cases h1 : d = 1
  · subst h1
    have : decL 1 = [49] := by unfold decL; rw [if_neg (by decide), dR_pos (by decide), show (1 : Nat) / 10 = 0 from rfl, dR_zero]; rfl
    rw [this]; rfl
  · rw [decide_eq_false h1, beq_eq_false_iff_ne]
    intro he
    have hl : (dR d).length = 1 := by
      have := congrArg List.length he
      unfold decL bytesOf at this
      rw [if_neg h, List.length_map, List.length_reverse] at this
      exact this
    obtain ⟨h2, _⟩ := dR_len1 hl
    unfold decL at he
    rw [if_neg h, dR_pos h, Nat.div_eq_of_lt h2, dR_zero] at he
    simp only [List.reverse_cons, List.reverse_nil, List.nil_append, bytesOf, List.map_cons, List.map_nil, Int.toNat_natCast] at he
    injection he with he _
    have h3 := congrArg UInt8.toNat he
    rw [UInt8.toNat_ofNat', show (49 : UInt8).toNat = 49 from rfl] at h3
    omega
theorem r_Text_is (a : Rat) (h : qs' a) (hl : denL a.den l) : m_r_Text (decide (a.num < 0)) (dg10 a.num.natAbs) false l = some (txt a) := by
  have h1 : (decL a.num.natAbs).length ≤ 400000000001 := decL_len (sz_le.1 h).1
  have h2 : (decL a.den).length ≤ 400000000001 := decL_len (sz_le.1 h).2
  unfold m_r_Text txt
  rw [ZText_is _ _ (qs_smn (qs_w h)) (fun h0 => decide_eq_false (by omega)), Option.bind_some, r_Q_den_is a _ _ hl, Option.bind_some]
  dsimp only
  rw [ZText_is _ _ (qs_smd (qs_w h)) (fun h0 => rfl), Option.bind_some]
  have e0 : (if (false : Bool) = true then ([45] : List UInt8) else []) ++ decL a.den = decL a.den := by simp
  rw [e0, decL_one a.den_nz]
  have e1 : (if decide (a.num < 0) = true then ([45] : List UInt8) else []) = (if a.num < 0 then [45] else []) := by simp
  rw [e1]
  have h3 : ((if a.num < 0 then [45] else []) ++ decL a.num.natAbs : List UInt8).length ≤ 400000000002 := by
    rw [List.length_append]; split <;> simp only [List.length_cons, List.length_nil] <;> omega
  generalize ((if a.num < 0 then [45] else []) ++ decL a.num.natAbs : List UInt8) = t at *
  by_cases hd : a.den = 1
  · rw [if_pos (decide_eq_true hd), if_pos hd, List.append_nil]
  · rw [if_neg (by simpa using hd), if_neg hd]
    refine must_of (by simp only [List.length_cons, List.length_nil]; omega) (must_of (by simp only [List.length_append, List.length_cons, List.length_nil]; omega) ?_)
    rw [List.append_assoc]; rfl
theorem r_Sign_is' (a : Rat) (l : List Int) : m_r_Sign (decide (a.num < 0)) (dg10 a.num.natAbs) false l = some (sgn a) := by
  unfold m_r_Sign m_r_ZCmp
  rw [← sgn_num]
  by_cases h : a.num < 0
  · rw [decide_eq_true h, if_pos (by decide), if_pos rfl, if_pos h]; rfl
  · rw [decide_eq_false h, if_neg (by decide), if_neg (by decide), if_neg h]
    by_cases h0 : a.num = 0
    · rw [h0, if_pos rfl]
      have := abs_is 0 0 (sm_small (by decide)) (sm_small (by decide))
      rw [dg10_zero] at this
      rw [show Int.natAbs 0 = 0 from rfl, dg10_zero, this]; rfl
    · rw [if_neg h0]
      have := den_dg a.num.natAbs (by omega)
      have hn : (((dg10 a.num.natAbs).length : Int) != ((([] : List Int).length : Nat) : Int)) = true := by
        rw [bne_iff_ne]; exact this
      unfold m_r_abs
      rw [if_pos hn, if_neg (by simp)]; rfl
end
end Go.Am
namespace Go.Am
open Go.RowKit
section
variable {l m : List Int}
theorem nat_cmpz (a b : Nat) : cmpz (a : Int) (b : Int) = cmpn a b := by
  unfold cmpz cmpn; split <;> split <;> (try split) <;> (try split) <;> omega
theorem two_z : m_r_ZInt 2 = some (false, dg10 2) := ZInt_is 2 (by unfold i64r; omega)
theorem nsub (a b : Nat) (h : b ≤ a) (ha : sm a) : m_r_ZSub false (dg10 a) false (dg10 b) = some (false, dg10 (a - b)) := by
  have := ZSub_is (a : Int) (b : Int) (by rw [Int.natAbs_natCast]; exact ha) (by rw [Int.natAbs_natCast]; exact sm_le h ha)
  rw [← Int.ofNat_sub h, nat_lt0, nat_lt0, nat_lt0, Int.natAbs_natCast, Int.natAbs_natCast, Int.natAbs_natCast] at this
  exact this
theorem nadd (a b : Nat) (ha : sm a) (hb : sm b) : m_r_ZAdd false (dg10 a) false (dg10 b) = some (false, dg10 (a + b)) := by
  have := ZAdd_is (a : Int) (b : Int) (by rw [Int.natAbs_natCast]; exact ha) (by rw [Int.natAbs_natCast]; exact hb)
  rw [← Int.natCast_add, nat_lt0, nat_lt0, nat_lt0, Int.natAbs_natCast, Int.natAbs_natCast, Int.natAbs_natCast] at this
  exact this
theorem nmul (a b : Nat) (ha : sm a) (hb : sm b) : m_r_ZMul false (dg10 a) false (dg10 b) = some (false, dg10 (a * b)) := by
  have := ZMul_is (a : Int) (b : Int) (by rw [Int.natAbs_natCast]; exact ha) (by rw [Int.natAbs_natCast]; exact hb)
  rw [← Int.natCast_mul, nat_lt0, nat_lt0, nat_lt0, Int.natAbs_natCast, Int.natAbs_natCast, Int.natAbs_natCast] at this
  exact this
theorem ncmp (a b : Nat) (ha : sm a) (hb : sm b) : m_r_ZCmp false (dg10 a) false (dg10 b) = some (cmpn a b) := by
  have := ZCmp_is (a : Int) (b : Int) (by rw [Int.natAbs_natCast]; exact ha) (by rw [Int.natAbs_natCast]; exact hb)
  rw [nat_cmpz, nat_lt0, nat_lt0, Int.natAbs_natCast, Int.natAbs_natCast] at this
  exact this
theorem nhalf (a : Nat) (ha : sm a) : m_r_ZFloor false (dg10 a) false (dg10 2) = some ((false, dg10 (a / 2)), (false, dg10 (a % 2))) := by
  have := ZFloor_is (a : Int) 2 false (by decide) (by rw [Int.natAbs_natCast]; exact ha) (sm_small (by decide))
  rw [← Int.natCast_ediv, ← Int.natCast_emod, nat_lt0, nat_lt0, nat_lt0, Int.natAbs_natCast, Int.natAbs_natCast, Int.natAbs_natCast] at this
  exact this
theorem ZRoot_step (n lo hi : Nat) (hlo : blen lo ≤ 2000000000001) (hhi : blen hi ≤ 2000000000001) (hn : sm n) (h : lo < hi) :
    m_r_ZRoot_l1 false (dg10 n) false (dg10 lo) false (dg10 hi) = some (if 1 < hi - lo then (if (lo + hi) / 2 * ((lo + hi) / 2) ≤ n then .next (false, dg10 ((lo + hi) / 2), false, dg10 hi) else .next (false, dg10 lo, false, dg10 ((lo + hi) / 2))) else .done (false, dg10 lo)) := by
  have s1 : sm lo := sm_of hlo (by omega)
  have s2 : sm hi := sm_of hhi (by omega)
  have s3 : sm (hi - lo) := sm_le (Nat.sub_le _ _) s2
  have s4 : sm (lo + hi) := sm_of (blen_add hlo hhi) (by omega)
  have hmid : blen ((lo + hi) / 2) ≤ 2000000000001 := Nat.le_trans (blen_mono (by omega)) hhi
  have s5 : sm ((lo + hi) / 2) := sm_of hmid (by omega)
  have s6 : sm ((lo + hi) / 2 * ((lo + hi) / 2)) := sm_of (blen_mul_le hmid hmid) (by omega)
  unfold m_r_ZRoot_l1
  rw [nsub hi lo (by omega) s2, one_z]
  simp only [Option.bind_some]
  rw [ncmp _ _ s3 (sm_small (by decide))]
  simp only [Option.bind_some]
  by_cases h1 : 1 < hi - lo
  · have c1 : cmpn (hi - lo) 1 = 1 := by unfold cmpn; rw [if_neg (by omega), if_pos h1]
    rw [c1, if_pos (by decide), if_pos h1, nadd _ _ s1 s2, two_z]
    simp only [Option.bind_some]
    rw [nhalf _ s4]
    simp only [Option.bind_some]
    rw [nmul _ _ s5 s5]
    simp only [Option.bind_some]
    rw [ncmp _ _ s6 hn]
    simp only [Option.bind_some]
    by_cases h2 : (lo + hi) / 2 * ((lo + hi) / 2) ≤ n
    · have c2 : decide (cmpn ((lo + hi) / 2 * ((lo + hi) / 2)) n ≤ 0) = true := by
        apply decide_eq_true; unfold cmpn; split
        · decide
        · rw [if_neg (by omega)]; decide
      rw [c2, if_pos rfl, if_pos h2]
    · have c2 : decide (cmpn ((lo + hi) / 2 * ((lo + hi) / 2)) n ≤ 0) = false := by
        apply decide_eq_false; unfold cmpn; rw [if_neg (by omega), if_pos (by omega)]; decide
      rw [c2, if_neg (by decide), if_neg h2]
  · have c1 : decide (cmpn (hi - lo) 1 > 0) = false := by
      apply decide_eq_false; unfold cmpn; rw [if_neg h1]; split <;> decide
    rw [c1, if_neg (by decide), if_neg h1]
theorem ZRoot_is (n : Nat) (hn : blen n ≤ 2000000000000) : m_r_ZRoot false (dg10 n) = some (false, dg10 (isqrt n)) := by
  have sn : sm n := sm_of hn (by omega)
  unfold m_r_ZRoot
  rw [one_z]
  simp only [Option.bind_some]
  rw [nadd _ _ sn (sm_small (by decide))]
  simp only [Option.bind_some]
  have h1 : blen (n + 1) ≤ 2000000000001 := blen_add hn (Nat.le_trans (show blen 1 ≤ 1 by decide) (by omega))
  obtain ⟨r, hr, rfl⟩ := Loop_run (body := fun (s : Bool × (List Int) × Bool × (List Int)) => m_r_ZRoot_l1 false (dg10 n) s.1 s.2.1 s.2.2.1 s.2.2.2) (false, [], false, dg10 (n + 1))
    (fun s => ∃ lo hi : Nat, s = (false, dg10 lo, false, dg10 hi) ∧ lo < hi ∧ hi ≤ n + 1 ∧ lo * lo ≤ n ∧ n < hi * hi) (fun s => (v10 s.2.2.2 - v10 s.2.1).toNat) (fun r => r = (false, dg10 (isqrt n)))
    ⟨0, n + 1, by rw [dg10_zero], by omega, Nat.le_refl _, Nat.zero_le _, by rw [Nat.mul_add, Nat.mul_one]; omega⟩ (by
    rintro s ⟨lo, hi, rfl, h2, h3, h4, h5⟩
    simp only
    have hhi : blen hi ≤ 2000000000001 := Nat.le_trans (blen_mono h3) h1
    have hlo : blen lo ≤ 2000000000001 := Nat.le_trans (blen_mono (by omega)) h1
    rw [ZRoot_step n lo hi hlo hhi sn h2]
    by_cases c1 : 1 < hi - lo
    · left
      rw [if_pos c1]
      by_cases c2 : (lo + hi) / 2 * ((lo + hi) / 2) ≤ n
      · rw [if_pos c2]
        exact ⟨_, rfl, ⟨_, hi, rfl, by omega, h3, c2, h5⟩, by simp only [v10_dg10]; omega⟩
      · rw [if_neg c2]
        exact ⟨_, rfl, ⟨lo, _, rfl, by omega, by omega, h4, by omega⟩, by simp only [v10_dg10]; omega⟩
    · right
      rw [if_neg c1]
      have : hi = lo + 1 := by omega
      subst this
      exact ⟨_, rfl, by rw [isqrt_eq h4 h5]⟩)
  rw [hr]; rfl
theorem Fine_is (k : Nat) (hk : k ≤ 100000) : m_r_Fine (k : Int) = some (rr ((2 : Rat) ^ k)) := by
  unfold m_r_Fine
  rw [r_Int_is 1 (by unfold i64r; omega)]
  simp only [Option.bind_some, rr, zz]
  obtain ⟨r, hr, rfl⟩ := Loop_run (body := fun (s : Int × Bool × (List Int) × Bool × (List Int)) => m_r_Fine_l1 (k : Int) s.1 s.2.1 s.2.2.1 s.2.2.2.1 s.2.2.2.2) (0, decide (((1 : Int) : Rat).num < 0), dg10 ((1 : Int) : Rat).num.natAbs, false, dg10 ((1 : Int) : Rat).den)
    (fun s => ∃ i : Nat, i ≤ k ∧ s = ((i : Int), decide (((2 : Rat) ^ i).num < 0), dg10 ((2 : Rat) ^ i).num.natAbs, false, dg10 ((2 : Rat) ^ i).den)) (fun s => (k - s.1).toNat) (fun r => r = (decide (((2 : Rat) ^ k).num < 0), dg10 ((2 : Rat) ^ k).num.natAbs, false, dg10 ((2 : Rat) ^ k).den))
    ⟨0, Nat.zero_le _, by rw [Rat.pow_zero]; rfl⟩ (by
    rintro s ⟨i, hi, rfl⟩
    simp only
    unfold m_r_Fine_l1
    by_cases h : i < k
    · left
      have hq : qw ((2 : Rat) ^ i) := pow_qw i (by omega)
      rw [if_pos (decide_eq_true (by omega)), r_Add_is _ _ hq hq (.inl rfl) (.inl rfl)]
      simp only [Option.bind_some, rr, zz]
      have e4 : IntKind.i64.wrap ((i : Int) + 1) = ((i + 1 : Nat) : Int) := by rw [i64_in (by omega)]; omega
      have e5 : (2 : Rat) ^ i + 2 ^ i = 2 ^ (i + 1) := by rw [Rat.pow_succ]; grind
      rw [e4, e5]
      exact ⟨_, rfl, ⟨i + 1, h, rfl⟩, by simp only; omega⟩
    · right
      rw [if_neg (by simp; omega)]
      exact ⟨_, rfl, by rw [show i = k from by omega]⟩)
  rw [hr]; rfl
end
end Go.Am
namespace Go.Am
open Go.RowKit
def rabs (x : Rat) : Rat := if x < 0 then -x else x
def closer (a c b : Rat) : Bool := decide (cmpq (rabs (c - a)) (rabs (b - a)) < 0) || (cmpq (rabs (c - a)) (rabs (b - a)) == 0 && (decide (cmpn c.den b.den < 0) || (cmpn c.den b.den == 0 && decide (cmpq c b < 0))))
def nearS (a : Rat) (n j : Nat) (b : Rat) : Rat := if closer a (mkRat ((a * (n : Int)).floor + (j : Int)) n) b then mkRat ((a * (n : Int)).floor + (j : Int)) n else b
def nearR (a : Rat) : Nat → Rat
  | 0 => (a.floor : Rat)
  | n + 1 => nearS a (n + 1) 1 (nearS a (n + 1) 0 (nearR a n))
theorem blen_of_sz {z : Int} {n : Nat} (h : sz (z : Rat) ≤ n) : blen z.natAbs ≤ n := by have := (sz_le.1 h).1; rwa [Rat.num_intCast] at this
theorem sz_mk (z : Int) (d n : Nat) (hd : d ≠ 0) (h1 : blen z.natAbs ≤ n) (h2 : blen d ≤ n) : sz (mkRat z d) ≤ n :=
  sz_le.2 ⟨Nat.le_trans (blen_mono (mk_num_le _ _)) h1, Nat.le_trans (blen_mono (mk_den_le _ _ hd)) h2⟩
theorem sz_rabs (a : Rat) : sz (rabs a) = sz a := by unfold rabs; exact sz_abs a
theorem sz_nat64 {n : Nat} (h : n < 18446744073709551616) : sz ((n : Int) : Rat) ≤ 65 := Nat.le_trans (sz_int _) (by
  rw [Int.natAbs_natCast]
  exact Nat.succ_le_succ (blen_small h))
section
open D
theorem R_int {a1 : Int} {r2 : Rat} (h : q_int a1 = some r2) : CtrG PP 41 [] [D.int .i64 a1] [] (rqD r2) := by
  obtain ⟨h0, h⟩ := must_some h
  injection h with h; subst h
  exact (C_r_Int (r_Int_is a1 h0)).outR (rq_close _)
def r_of (n d : Int) : Option Rat := must (i64r n ∧ i64r d ∧ d ≠ 0) (some ((n : Rat) / (d : Rat)))
theorem R_of {a1 : Int} {a2 : Int} {r3 : Rat} (h : r_of a1 a2 = some r3) : CtrG PP 37 [] [D.int .i64 a1, D.int .i64 a2] [] (rqD r3) := by
  obtain ⟨h0, h⟩ := must_some h
  injection h with h; subst h
  exact (C_r_Of (r_Of_is a1 a2 h0.1 h0.2.1 h0.2.2)).outR (rq_close _)
theorem R_add {a1 : Rat} {a2 : Rat} {r3 : Rat} (h : q_add a1 a2 = some r3) : CtrG PP 43 [] [rqD a1, rqD a2] [] (rqD r3) := by
  obtain ⟨h0, h⟩ := must_some h
  injection h with h; subst h
  exact .rq2 fun l m hl hm => (C_r_Add (r_Add_is a1 a2 (qs_w h0.1) (qs_w h0.2) hl hm)).outR (rq_close _)
theorem R_sub {a1 : Rat} {a2 : Rat} {r3 : Rat} (h : q_sub a1 a2 = some r3) : CtrG PP 45 [] [rqD a1, rqD a2] [] (rqD r3) := by
  obtain ⟨h0, h⟩ := must_some h
  injection h with h; subst h
  exact .rq2 fun l m hl hm => (C_r_Sub (r_Sub_is a1 a2 (qs_w h0.1) (qs_w h0.2) hl hm)).outR (rq_close _)
theorem R_mul {a1 : Rat} {a2 : Rat} {r3 : Rat} (h : q_mul a1 a2 = some r3) : CtrG PP 47 [] [rqD a1, rqD a2] [] (rqD r3) := by
  obtain ⟨h0, h⟩ := must_some h
  injection h with h; subst h
  exact .rq2 fun l m hl hm => (C_r_Mul (r_Mul_is a1 a2 (qs_w h0.1) (qs_w h0.2) hl hm)).outR (rq_close _)
theorem R_over {a1 : Rat} {a2 : Rat} {r3 : Rat} (h : q_over a1 a2 = some r3) : CtrG PP 39 [] [rqD a1, rqD a2] [] (rqD r3) := by
  obtain ⟨h0, h⟩ := must_some h
  injection h with h; subst h
  exact .rq2 fun l m hl hm => (C_r_Div (r_Div_is a1 a2 h0.1 (qs_w h0.2.1) (qs_w h0.2.2) hl hm)).outR (rq_close _)
theorem R_abs {a1 : Rat} {r2 : Rat} (h : q_abs a1 = some r2) : CtrG PP 51 [] [rqD a1] [] (rqD r2) := by
  injection h with h; subst h
  exact .rq1 fun l hl => (C_r_Abs (r_Abs_is a1 hl)).outR (rq_close _)
theorem R_cmp {a1 : Rat} {a2 : Rat} {r3 : Int} (h : q_cmp a1 a2 = some r3) : CtrG PP 52 [] [rqD a1, rqD a2] [] (D.int .i64 r3) := by
  obtain ⟨h0, h⟩ := must_some h
  injection h with h; subst h
  exact .rq2 fun l m hl hm => C_r_Cmp (r_Cmp_is a1 a2 (qs_w h0.1) (qs_w h0.2) hl hm)
theorem R_sign {a1 : Rat} {r2 : Int} (h : q_sign a1 = some r2) : CtrG PP 31 [] [rqD a1] [] (D.int .i64 r2) := by
  injection h with h; subst h
  exact .rq1 fun l hl => C_r_Sign (r_Sign_is' a1 l)
theorem R_text {a1 : Rat} {r2 : List UInt8} (h : q_text a1 = some r2) : CtrG PP 162 [] [rqD a1] [] (strD r2) := by
  obtain ⟨h0, h⟩ := must_some h
  injection h with h; subst h
  exact .rq1 fun l hl => C_r_Text (r_Text_is a1 h0 hl)
def r_ceil (a : Rat) : Option Int := must (qs' a) (some a.ceil)
theorem R_ceil {a1 : Rat} {r2 : Int} (h : r_ceil a1 = some r2) : CtrG PP 81 [] [rqD a1] [] (zD r2) := by
  obtain ⟨h0, h⟩ := must_some h
  injection h with h; subst h
  exact .rq1 fun l hl => C_r_Ceil (r_Ceil_is a1 (qs_w h0) hl)
def r_whole (z : Int) : Option Rat := some (z : Rat)
theorem R_whole {a1 : Int} {r2 : Rat} (h : r_whole a1 = some r2) : CtrG PP 74 [] [zD a1] [] (rqD r2) := by
  injection h with h; subst h
  exact (C_r_Whole (r_Whole_is a1)).outR (rq_close _)
def r_fine (k : Int) : Option Rat := must (0 ≤ k ∧ k ≤ 100000) (some ((2 : Rat) ^ k.toNat))
theorem R_fine {a1 : Int} {r2 : Rat} (h : r_fine a1 = some r2) : CtrG PP 174 [] [D.int .i64 a1] [] (rqD r2) := by
  obtain ⟨h0, h⟩ := must_some h
  injection h with h; subst h
  obtain ⟨k, rfl⟩ := Int.eq_ofNat_of_zero_le h0.1
  exact (C_r_Fine (Fine_is k (by omega))).outR (rq_close _)
def r_zneg (z : Int) : Option Int := some (-z)
theorem R_zneg {a1 : Int} {r2 : Int} (h : r_zneg a1 = some r2) : CtrG PP 160 [] [zD a1] [] (zD r2) := by
  injection h with h; subst h
  exact C_r_ZNeg (ZNeg_is a1)
def r_zadd (z w : Int) : Option Int := must (sm z.natAbs ∧ sm w.natAbs) (some (z + w))
theorem R_zadd {a1 : Int} {a2 : Int} {r3 : Int} (h : r_zadd a1 a2 = some r3) : CtrG PP 159 [] [zD a1, zD a2] [] (zD r3) := by
  obtain ⟨h0, h⟩ := must_some h
  injection h with h; subst h
  exact C_r_ZAdd (ZAdd_is a1 a2 h0.1 h0.2)
def r_zsub (z w : Int) : Option Int := must (sm z.natAbs ∧ sm w.natAbs) (some (z - w))
theorem R_zsub {a1 : Int} {a2 : Int} {r3 : Int} (h : r_zsub a1 a2 = some r3) : CtrG PP 191 [] [zD a1, zD a2] [] (zD r3) := by
  obtain ⟨h0, h⟩ := must_some h
  injection h with h; subst h
  exact C_r_ZSub (ZSub_is a1 a2 h0.1 h0.2)
def r_zcmp (z w : Int) : Option Int := must (sm z.natAbs ∧ sm w.natAbs) (some (cmpz z w))
theorem R_zcmp {a1 : Int} {a2 : Int} {r3 : Int} (h : r_zcmp a1 a2 = some r3) : CtrG PP 172 [] [zD a1, zD a2] [] (D.int .i64 r3) := by
  obtain ⟨h0, h⟩ := must_some h
  injection h with h; subst h
  exact C_r_ZCmp (ZCmp_is a1 a2 h0.1 h0.2)
def r_zint (n : Int) : Option Int := must (i64r n) (some n)
theorem R_zint {a1 : Int} {r2 : Int} (h : r_zint a1 = some r2) : CtrG PP 157 [] [D.int .i64 a1] [] (zD r2) := by
  obtain ⟨h0, h⟩ := must_some h
  injection h with h; subst h
  exact C_r_ZInt (ZInt_is a1 h0)
def r_zfloor (z w : Int) : Option (Int × Int) := must (0 < w ∧ sm z.natAbs ∧ sm w.natAbs) (some (z / w, z % w))
theorem R_zfloor {a1 : Int} {a2 : Int} {r3 : Int} {r4 : Int} (h : r_zfloor a1 a2 = some (r3, r4)) : CtrG PP 189 [] [zD a1, zD a2] [] (D.tup [zD r3, zD r4]) := by
  obtain ⟨⟨h0, h1, h2⟩, h⟩ := must_some h
  injection h with h; injection h with h3 h4; subst h3; subst h4
  obtain ⟨d, rfl⟩ := Int.eq_ofNat_of_zero_le (Int.le_of_lt h0)
  rw [Int.natAbs_natCast] at h2
  have e := ZFloor_is a1 d (decide ((d : Int) < 0)) (by omega) h1 h2
  have e2 : m_r_ZFloor (decide (a1 < 0)) (dg10 a1.natAbs) (decide ((d : Int) < 0)) (dg10 (d : Int).natAbs) = _ := e
  exact C_r_ZFloor e2
end
end Go.Am
namespace Go.Am
open Go.RowKit
set_option maxRecDepth 100000
noncomputable section
def m_squareRoot (a1 : Bool) (a2 : Nat) (a3 : Nat) : Option (((Bool × Nat) × Nat) × Bool) := (n_root a2).bind fun v4 => (m_Q_den a1 a2 a3).bind fun v6 => (n_root v6).bind fun v8 => (n_mul v4 v4).bind fun v10 => (n_cmp v10 a2).bind fun v12 => (if (v12 != 0) = true then some (((false, 0), 0), false) else (n_mul v8 v8).bind fun v15 => (m_Q_den a1 a2 a3).bind fun v17 => (n_cmp v15 v17).bind fun v19 => (if (v19 != 0) = true then some (((false, 0), 0), false) else (m_quotient false v4 v8).bind fun ((v22, v23), v24) => some (((v22, v23), v24), true)))
theorem C_squareRoot {a1 : Bool} {a2 : Nat} {a3 : Nat} {r26 : Bool} {r27 : Nat} {r28 : Nat} {r29 : Bool} (h : m_squareRoot a1 a2 a3 = some (((r26, r27), r28), r29)) : CtrG PP 232 [] [D.agg ([D.bool a1, natD a2, natD a3])] [] (D.tup [D.agg ([D.bool r26, natD r27, natD r28]), D.bool r29]) := by
  unfold m_squareRoot at h
  refine .of Go.Proofs.Tryz.func232 rfl (by kernel_rfl) rfl rfl rfl rfl rfl rfl (fun A w0 L b => ?_)
  show Ok PP _ [(0, D.agg ([D.bool a1, natD a2, natD a3]))] [] _ _
  refine .reg (.bxA rfl rfl <| .alL ([D.bool false, natD 0, natD 0]) z_exact_Q ⟨.refl _, nil_nat, nil_nat, trivial⟩ rfl <| .asg rfl <| .nil) rfl ?_
  obtain ⟨v4, e5, h⟩ := bind_some h
  obtain ⟨v6, e7, h⟩ := bind_some h
  obtain ⟨v8, e9, h⟩ := bind_some h
  refine .regD hmix (.fa rfl f_exact_Q_0 <| .fa rfl f_exact_whole_1 <| .ldE1 (natD a2) rfl rfl ly_exact_nat rfl <| .callG (N_root e5) ⟨rfl, trivial⟩ trivial trivial <| .ldE ([D.bool a1, natD a2, natD a3]) rfl rfl ly_exact_Q rfl rfl <| .callG (C_Q_den e7) ⟨rfl, trivial⟩ trivial trivial <| .callG (N_root e9) ⟨rfl, trivial⟩ trivial trivial <| .asg rfl <| .asg rfl <| .nil) rfl (by kernel_rfl) ?_
  refine .sq ?_
  obtain ⟨v10, e11, h⟩ := bind_some h
  obtain ⟨v12, e13, h⟩ := bind_some h
  by_cases c14 : (v12 != 0) = true
  · replace h := ite_pos_some c14 h
    refine .regD hmix (.mv rfl <| .mv rfl <| .callG (N_mul e11) ⟨rfl, rfl, trivial⟩ trivial trivial <| .fa rfl f_exact_Q_0 <| .fa rfl f_exact_whole_1 <| .ldE1 (natD a2) rfl rfl ly_exact_nat rfl <| .callG (N_cmp e13) ⟨rfl, rfl, trivial⟩ trivial trivial <| .cm rfl rfl rfl <| .mv rfl <| .gNf rfl rfl rfl c14 <| .gNf rfl rfl rfl c14 <| .gNf rfl rfl rfl c14 <| .gNf rfl rfl rfl c14 <| .gNf rfl rfl rfl c14 <| .gNf rfl rfl rfl c14 <| .gNf rfl rfl rfl c14 <| .pkTb rfl c14 rfl <| .nil) rfl (by kernel_rfl) ?_
    refine .cTb rfl rfl ?_
    refine .reg (.bdQ ([D.bool false, natD 0, natD 0]) [] z_exact_Q pl_exact_Q trivial trivial ⟨.refl _, nil_nat, nil_nat, trivial⟩ <| .stE ([D.bool false, natD 0, natD 0]) rfl rfl rfl ly_exact_Q rfl rfl rfl <| .asg rfl <| .nil) rfl ?_
    cases h
    refine .retG (fun _ _ hb => hb) rfl (.cons (.agg rfl rfl ly_exact_Q rfl) (.cons (.tmp rfl) .nil)) (.refl _) trivial trivial
  · replace h := ite_neg_some c14 h
    obtain ⟨v15, e16, h⟩ := bind_some h
    obtain ⟨v17, e18, h⟩ := bind_some h
    obtain ⟨v19, e20, h⟩ := bind_some h
    refine .regD hmix (.mv rfl <| .mv rfl <| .callG (N_mul e11) ⟨rfl, rfl, trivial⟩ trivial trivial <| .fa rfl f_exact_Q_0 <| .fa rfl f_exact_whole_1 <| .ldE1 (natD a2) rfl rfl ly_exact_nat rfl <| .callG (N_cmp e13) ⟨rfl, rfl, trivial⟩ trivial trivial <| .cm rfl rfl rfl <| .mv rfl <| .gYf rfl rfl rfl c14 <| .mv rfl <| .gYf rfl rfl rfl c14 <| .mv rfl <| .gYf rfl rfl rfl c14 <| .callG (N_mul e16) ⟨rfl, rfl, trivial⟩ trivial trivial <| .gYf rfl rfl rfl c14 <| .ldE ([D.bool a1, natD a2, natD a3]) rfl rfl ly_exact_Q rfl rfl <| .gYf rfl rfl rfl c14 <| .callG (C_Q_den e18) ⟨rfl, trivial⟩ trivial trivial <| .gYf rfl rfl rfl c14 <| .callG (N_cmp e20) ⟨rfl, rfl, trivial⟩ trivial trivial <| .gYf rfl rfl rfl c14 <| .cm rfl rfl rfl <| .pkFb rfl c14 rfl <| .nil) rfl (by kernel_rfl) ?_
    by_cases c21 : (v19 != 0) = true
    · replace h := ite_pos_some c21 h
      refine .cTb rfl c21 ?_
      refine .reg (.bdQ ([D.bool false, natD 0, natD 0]) [] z_exact_Q pl_exact_Q trivial trivial ⟨.refl _, nil_nat, nil_nat, trivial⟩ <| .stE ([D.bool false, natD 0, natD 0]) rfl rfl rfl ly_exact_Q rfl rfl rfl <| .asg rfl <| .nil) rfl ?_
      cases h
      refine .retG (fun _ _ hb => hb) rfl (.cons (.agg rfl rfl ly_exact_Q rfl) (.cons (.tmp rfl) .nil)) (.refl _) trivial trivial
    · replace h := ite_neg_some c21 h
      refine .cFb rfl c21 ?_
      refine .skip (Ok.on ?_)
      obtain ⟨⟨⟨v22, v23⟩, v24⟩, e25, h⟩ := bind_some h
      refine .reg (.mv rfl <| .bdQ ([D.bool false, natD v4]) [(1, _, natD v4, [natD v4])] z_exact_whole pl_exact_whole ⟨rfl, rfl, .one rfl, rfl, trivial⟩ ⟨rfl, trivial⟩ ⟨.refl _, .refl _, trivial⟩ <| .mv rfl <| .callG (C_quotient e25) ⟨rfl, rfl, trivial⟩ trivial trivial <| .stE ([D.bool v22, natD v23, natD v24]) rfl rfl rfl ly_exact_Q rfl rfl rfl <| .asg rfl <| .nil) rfl ?_
      cases h
      refine .retG (fun _ _ hb => hb) rfl (.cons (.agg rfl rfl ly_exact_Q rfl) (.cons (.tmp rfl) .nil)) (.refl _) trivial trivial
def m_r_square (a1 : Bool) (a2 : List Int) (a3 : Bool) (a4 : List Int) : Option (((Bool × (List Int)) × (Bool × (List Int))) × Bool) := (m_r_ZRoot a1 a2).bind fun (v5, v6) => (m_r_Q_den a1 a2 a3 a4).bind fun (v8, v9) => (m_r_ZRoot v8 v9).bind fun (v11, v12) => (m_r_QOf v5 v6 v11 v12).bind fun ((v14, v15), (v16, v17)) => (m_r_ZMul v5 v6 v5 v6).bind fun (v19, v20) => (m_r_ZCmp v19 v20 a1 a2).bind fun v22 => (if (v22 == 0) = true then (m_r_ZMul v11 v12 v11 v12).bind fun (v25, v26) => (m_r_Q_den a1 a2 a3 a4).bind fun (v28, v29) => (m_r_ZCmp v25 v26 v28 v29).bind fun v31 => some (((v14, v15), (v16, v17)), (v31 == 0)) else some (((v14, v15), (v16, v17)), false))
theorem C_r_square {a1 : Bool} {a2 : List Int} {a3 : Bool} {a4 : List Int} {r33 : Bool} {r34 : List Int} {r35 : Bool} {r36 : List Int} {r37 : Bool} (h : m_r_square a1 a2 a3 a4 = some (((r33, r34), (r35, r36)), r37)) : CtrG PP 201 [] [D.agg ([D.bool a1, slcE (Enc.int .i64) a2, D.bool a3, slcE (Enc.int .i64) a4])] [] (D.tup [D.agg ([D.bool r33, slcE (Enc.int .i64) r34, D.bool r35, slcE (Enc.int .i64) r36]), D.bool r37]) := by
  unfold m_r_square at h
  refine .of Go.Proofs.Tryz.func201 rfl (by kernel_rfl) rfl rfl rfl rfl rfl rfl (fun A w0 L b => ?_)
  show Ok PP _ [(0, D.agg ([D.bool a1, slcE (Enc.int .i64) a2, D.bool a3, slcE (Enc.int .i64) a4]))] [] _ _
  refine .reg (.bxA rfl rfl <| .alL ([D.bool false, D.nil, D.bool false, D.nil]) z_ambleref01_Q ⟨.refl _, .refl _, .refl _, .refl _, trivial⟩ rfl <| .asg rfl <| .nil) rfl ?_
  obtain ⟨⟨v5, v6⟩, e7, h⟩ := bind_some h
  obtain ⟨⟨v8, v9⟩, e10, h⟩ := bind_some h
  obtain ⟨⟨v11, v12⟩, e13, h⟩ := bind_some h
  refine .regD hmix (.fa rfl f_ambleref01_Q_0 <| .ldE ([D.bool a1, slcE (Enc.int .i64) a2]) rfl rfl ly_ambleref01_Z rfl rfl <| .callG (C_r_ZRoot e7) ⟨rfl, trivial⟩ trivial trivial <| .ldE ([D.bool a1, slcE (Enc.int .i64) a2, D.bool a3, slcE (Enc.int .i64) a4]) rfl rfl ly_ambleref01_Q rfl rfl <| .callG (C_r_Q_den e10) ⟨rfl, trivial⟩ trivial trivial <| .callG (C_r_ZRoot e13) ⟨rfl, trivial⟩ trivial trivial <| .alL ([D.bool false, D.nil]) z_ambleref01_Z ⟨.refl _, .refl _, trivial⟩ rfl <| .alL ([D.bool false, D.nil]) z_ambleref01_Z ⟨.refl _, .refl _, trivial⟩ rfl <| .stE ([D.bool v5, slcE (Enc.int .i64) v6]) rfl rfl rfl ly_ambleref01_Z rfl rfl rfl <| .stE ([D.bool v11, slcE (Enc.int .i64) v12]) rfl rfl rfl ly_ambleref01_Z rfl rfl rfl <| .nil) rfl (by kernel_rfl) ?_
  obtain ⟨⟨⟨v14, v15⟩, ⟨v16, v17⟩⟩, e18, h⟩ := bind_some h
  obtain ⟨⟨v19, v20⟩, e21, h⟩ := bind_some h
  obtain ⟨v22, e23, h⟩ := bind_some h
  by_cases c24 : (v22 == 0) = true
  · replace h := ite_pos_some c24 h
    obtain ⟨⟨v25, v26⟩, e27, h⟩ := bind_some h
    obtain ⟨⟨v28, v29⟩, e30, h⟩ := bind_some h
    obtain ⟨v31, e32, h⟩ := bind_some h
    refine .regD hmix (.ldE ([D.bool v5, slcE (Enc.int .i64) v6]) rfl rfl ly_ambleref01_Z rfl rfl <| .ldE ([D.bool v11, slcE (Enc.int .i64) v12]) rfl rfl ly_ambleref01_Z rfl rfl <| .callG (C_r_QOf e18) ⟨rfl, rfl, trivial⟩ trivial trivial <| .ldE ([D.bool v5, slcE (Enc.int .i64) v6]) rfl rfl ly_ambleref01_Z rfl rfl <| .ldE ([D.bool v5, slcE (Enc.int .i64) v6]) rfl rfl ly_ambleref01_Z rfl rfl <| .callG (C_r_ZMul e21) ⟨rfl, rfl, trivial⟩ trivial trivial <| .fa rfl f_ambleref01_Q_0 <| .ldE ([D.bool a1, slcE (Enc.int .i64) a2]) rfl rfl ly_ambleref01_Z rfl rfl <| .callG (C_r_ZCmp e23) ⟨rfl, rfl, trivial⟩ trivial trivial <| .cm rfl rfl rfl <| .mv rfl <| .gYt rfl rfl rfl c24 <| .ldE ([D.bool v11, slcE (Enc.int .i64) v12]) rfl rfl ly_ambleref01_Z rfl rfl <| .gYt rfl rfl rfl c24 <| .ldE ([D.bool v11, slcE (Enc.int .i64) v12]) rfl rfl ly_ambleref01_Z rfl rfl <| .gYt rfl rfl rfl c24 <| .callG (C_r_ZMul e27) ⟨rfl, rfl, trivial⟩ trivial trivial <| .gYt rfl rfl rfl c24 <| .ldE ([D.bool a1, slcE (Enc.int .i64) a2, D.bool a3, slcE (Enc.int .i64) a4]) rfl rfl ly_ambleref01_Q rfl rfl <| .gYt rfl rfl rfl c24 <| .callG (C_r_Q_den e30) ⟨rfl, trivial⟩ trivial trivial <| .gYt rfl rfl rfl c24 <| .callG (C_r_ZCmp e32) ⟨rfl, rfl, trivial⟩ trivial trivial <| .gYt rfl rfl rfl c24 <| .cm rfl rfl rfl <| .pkTb rfl c24 rfl <| .stE ([D.bool v14, slcE (Enc.int .i64) v15, D.bool v16, slcE (Enc.int .i64) v17]) rfl rfl rfl ly_ambleref01_Q rfl rfl rfl <| .asg rfl <| .nil) rfl (by kernel_rfl) ?_
    cases h
    refine .retG (fun _ _ hb => hb) rfl (.cons (.agg rfl rfl ly_ambleref01_Q rfl) (.cons (.tmp rfl) .nil)) (.refl _) trivial trivial
  · replace h := ite_neg_some c24 h
    refine .regD hmix (.ldE ([D.bool v5, slcE (Enc.int .i64) v6]) rfl rfl ly_ambleref01_Z rfl rfl <| .ldE ([D.bool v11, slcE (Enc.int .i64) v12]) rfl rfl ly_ambleref01_Z rfl rfl <| .callG (C_r_QOf e18) ⟨rfl, rfl, trivial⟩ trivial trivial <| .ldE ([D.bool v5, slcE (Enc.int .i64) v6]) rfl rfl ly_ambleref01_Z rfl rfl <| .ldE ([D.bool v5, slcE (Enc.int .i64) v6]) rfl rfl ly_ambleref01_Z rfl rfl <| .callG (C_r_ZMul e21) ⟨rfl, rfl, trivial⟩ trivial trivial <| .fa rfl f_ambleref01_Q_0 <| .ldE ([D.bool a1, slcE (Enc.int .i64) a2]) rfl rfl ly_ambleref01_Z rfl rfl <| .callG (C_r_ZCmp e23) ⟨rfl, rfl, trivial⟩ trivial trivial <| .cm rfl rfl rfl <| .mv rfl <| .gNt rfl rfl rfl c24 <| .gNt rfl rfl rfl c24 <| .gNt rfl rfl rfl c24 <| .gNt rfl rfl rfl c24 <| .gNt rfl rfl rfl c24 <| .gNt rfl rfl rfl c24 <| .gNt rfl rfl rfl c24 <| .pkFb rfl c24 rfl <| .stE ([D.bool v14, slcE (Enc.int .i64) v15, D.bool v16, slcE (Enc.int .i64) v17]) rfl rfl rfl ly_ambleref01_Q rfl rfl rfl <| .asg rfl <| .nil) rfl (by kernel_rfl) ?_
    cases h
    refine .retG (fun _ _ hb => hb) rfl (.cons (.agg rfl rfl ly_ambleref01_Q rfl) (.cons (.tmp rfl) .nil)) (.refl _) trivial trivial
def m_r_Surd_Normal (a1 : Bool) (a2 : List Int) (a3 : Bool) (a4 : List Int) (a5 : Bool) (a6 : List Int) (a7 : Bool) (a8 : List Int) (a9 : Bool) (a10 : List Int) (a11 : Bool) (a12 : List Int) : Option (((Bool × (List Int)) × (Bool × (List Int))) × ((Bool × (List Int)) × (Bool × (List Int))) × ((Bool × (List Int)) × (Bool × (List Int)))) := (m_r_square a9 a10 a11 a12).bind fun (((v13, v14), (v15, v16)), v17) => (if v17 = true then ((if (!v17) = true then some ((false, [], false, [])) else some ((v13, v14, v15, v16)))).bind fun (v23, v24, v25, v26) => (m_r_Mul a5 a6 a7 a8 v23 v24 v25 v26).bind fun ((v27, v28), (v29, v30)) => (m_r_Add a1 a2 a3 a4 v27 v28 v29 v30).bind fun ((v32, v33), (v34, v35)) => some (((v32, v33), (v34, v35)), ((false, []), (false, [])), ((false, []), (false, []))) else (m_r_Sign a5 a6 a7 a8).bind fun v37 => (if (v37 == 0) = true then ((if (!v17) = true then some ((false, [], false, [])) else some ((v13, v14, v15, v16)))).bind fun (v43, v44, v45, v46) => (m_r_Mul a5 a6 a7 a8 v43 v44 v45 v46).bind fun ((v47, v48), (v49, v50)) => (m_r_Add a1 a2 a3 a4 v47 v48 v49 v50).bind fun ((v52, v53), (v54, v55)) => some (((v52, v53), (v54, v55)), ((false, []), (false, [])), ((false, []), (false, []))) else (m_r_Q_den a9 a10 a11 a12).bind fun (v57, v58) => (m_r_Whole v57 v58).bind fun ((v60, v61), (v62, v63)) => (m_r_Div a5 a6 a7 a8 v60 v61 v62 v63).bind fun ((v65, v66), (v67, v68)) => (m_r_Q_den a9 a10 a11 a12).bind fun (v70, v71) => (m_r_ZMul a9 a10 v70 v71).bind fun (v73, v74) => (m_r_Whole v73 v74).bind fun ((v76, v77), (v78, v79)) => some (((a1, a2), (a3, a4)), ((v65, v66), (v67, v68)), ((v76, v77), (v78, v79)))))
theorem C_r_Surd_Normal {a1 : Bool} {a2 : List Int} {a3 : Bool} {a4 : List Int} {a5 : Bool} {a6 : List Int} {a7 : Bool} {a8 : List Int} {a9 : Bool} {a10 : List Int} {a11 : Bool} {a12 : List Int} {r81 : Bool} {r82 : List Int} {r83 : Bool} {r84 : List Int} {r85 : Bool} {r86 : List Int} {r87 : Bool} {r88 : List Int} {r89 : Bool} {r90 : List Int} {r91 : Bool} {r92 : List Int} (h : m_r_Surd_Normal a1 a2 a3 a4 a5 a6 a7 a8 a9 a10 a11 a12 = some (((r81, r82), (r83, r84)), ((r85, r86), (r87, r88)), ((r89, r90), (r91, r92)))) : CtrG PP 122 [] [D.agg ([D.bool a1, slcE (Enc.int .i64) a2, D.bool a3, slcE (Enc.int .i64) a4, D.bool a5, slcE (Enc.int .i64) a6, D.bool a7, slcE (Enc.int .i64) a8, D.bool a9, slcE (Enc.int .i64) a10, D.bool a11, slcE (Enc.int .i64) a12])] [] (D.agg ([D.bool r81, slcE (Enc.int .i64) r82, D.bool r83, slcE (Enc.int .i64) r84, D.bool r85, slcE (Enc.int .i64) r86, D.bool r87, slcE (Enc.int .i64) r88, D.bool r89, slcE (Enc.int .i64) r90, D.bool r91, slcE (Enc.int .i64) r92])) := by
  unfold m_r_Surd_Normal at h
  refine .of Go.Proofs.Tryz.func122 rfl (by kernel_rfl) rfl rfl rfl rfl rfl rfl (fun A w0 L b => ?_)
  show Ok PP _ [(0, D.agg ([D.bool a1, slcE (Enc.int .i64) a2, D.bool a3, slcE (Enc.int .i64) a4, D.bool a5, slcE (Enc.int .i64) a6, D.bool a7, slcE (Enc.int .i64) a8, D.bool a9, slcE (Enc.int .i64) a10, D.bool a11, slcE (Enc.int .i64) a12]))] [] _ _
  refine .reg (.bxA rfl rfl <| .alL ([D.bool false, D.nil, D.bool false, D.nil, D.bool false, D.nil, D.bool false, D.nil, D.bool false, D.nil, D.bool false, D.nil]) z_ambleref01_Surd ⟨.refl _, .refl _, .refl _, .refl _, .refl _, .refl _, .refl _, .refl _, .refl _, .refl _, .refl _, .refl _, trivial⟩ rfl <| .nil) rfl ?_
  obtain ⟨⟨⟨⟨v13, v14⟩, ⟨v15, v16⟩⟩, v17⟩, e18, h⟩ := bind_some h
  refine .reg (.fa rfl f_ambleref01_Surd_2 <| .ldE ([D.bool a9, slcE (Enc.int .i64) a10, D.bool a11, slcE (Enc.int .i64) a12]) rfl rfl ly_ambleref01_Q rfl rfl <| .callG (C_r_square e18) ⟨rfl, trivial⟩ trivial trivial <| .mv rfl <| .ext rfl rfl <| .ext rfl rfl <| .alL ([D.bool false, D.nil, D.bool false, D.nil]) z_ambleref01_Q ⟨.refl _, .refl _, .refl _, .refl _, trivial⟩ rfl <| .stE ([D.bool v13, slcE (Enc.int .i64) v14, D.bool v15, slcE (Enc.int .i64) v16]) rfl rfl rfl ly_ambleref01_Q rfl rfl rfl <| .asg rfl <| .nil) rfl ?_
  refine .sq ?_
  by_cases c19 : v17 = true
  · replace h := ite_pos_some c19 h
    refine .reg (.mv rfl <| .mv rfl <| .gNf rfl rfl rfl c19 <| .gNf rfl rfl rfl c19 <| .gNf rfl rfl rfl c19 <| .gNf rfl rfl rfl c19 <| .pkTb rfl c19 rfl <| .nil) rfl ?_
    refine .cTb rfl rfl ?_
    obtain ⟨o20, hp21, h⟩ := bind_some h
    refine .cutX (fun i => o20 = i) (fun (i : Bool × (List Int) × Bool × (List Int)) => [(1, D.ref 1 0), (2, D.ref 2 0), (3, D.ref 3 0)]) (fun (i : Bool × (List Int) × Bool × (List Int)) => [(1, Hp.box 128 ([D.bool a1, slcE (Enc.int .i64) a2, D.bool a3, slcE (Enc.int .i64) a4, D.bool a5, slcE (Enc.int .i64) a6, D.bool a7, slcE (Enc.int .i64) a8, D.bool a9, slcE (Enc.int .i64) a10, D.bool a11, slcE (Enc.int .i64) a12])), (2, Hp.box 128 ([D.bool false, D.nil, D.bool false, D.nil, D.bool false, D.nil, D.bool false, D.nil, D.bool false, D.nil, D.bool false, D.nil])), (3, Hp.box 37 ([D.bool i.1, slcE (Enc.int .i64) i.2.1, D.bool i.2.2.1, slcE (Enc.int .i64) i.2.2.2]))]) ?_ ?_
    · have ho1 := h
      clear h
      have h := hp21
      clear hp21
      refine .reg (.mv rfl <| .not rfl <| .nil) rfl ?_
      by_cases c22 : (!v17) = true
      · replace h := ite_pos_some c22 h
        refine .cTb rfl c22 ?_
        refine .region (.bdQ ([D.bool false, D.nil, D.bool false, D.nil]) [] z_ambleref01_Q pl_ambleref01_Q trivial trivial ⟨.refl _, .refl _, .refl _, .refl _, trivial⟩ <| .stE ([D.bool false, D.nil, D.bool false, D.nil]) rfl rfl rfl ly_ambleref01_Q rfl rfl rfl <| .nil) rfl (fun _ _ hs => ⟨(false, [], false, []), (Option.some.inj h).symm, hs.sub ⟨⟨_, rfl, .refl _⟩, ⟨_, rfl, .refl _⟩, ⟨_, rfl, .refl _⟩, trivial⟩ ⟨⟨_, rfl, .refl _⟩, ⟨_, rfl, .refl _⟩, ⟨_, rfl, .box ⟨.refl _, .nilE _, .refl _, .nilE _, trivial⟩⟩, trivial⟩ rfl rfl⟩)
      · replace h := ite_neg_some c22 h
        refine .cFb rfl c22 ?_
        refine .skip (fun _ _ hs => ⟨(v13, v14, v15, v16), (Option.some.inj h).symm, hs.sub ⟨⟨_, rfl, .refl _⟩, ⟨_, rfl, .refl _⟩, ⟨_, rfl, .refl _⟩, trivial⟩ ⟨⟨_, rfl, .refl _⟩, ⟨_, rfl, .refl _⟩, ⟨_, rfl, .refl _⟩, trivial⟩ rfl rfl⟩)
    · rintro ⟨v23, v24, v25, v26⟩ rfl
      show Ok PP _ [(1, D.ref 1 0), (2, D.ref 2 0), (3, D.ref 3 0)] [(1, Hp.box 128 ([D.bool a1, slcE (Enc.int .i64) a2, D.bool a3, slcE (Enc.int .i64) a4, D.bool a5, slcE (Enc.int .i64) a6, D.bool a7, slcE (Enc.int .i64) a8, D.bool a9, slcE (Enc.int .i64) a10, D.bool a11, slcE (Enc.int .i64) a12])), (2, Hp.box 128 ([D.bool false, D.nil, D.bool false, D.nil, D.bool false, D.nil, D.bool false, D.nil, D.bool false, D.nil, D.bool false, D.nil])), (3, Hp.box 37 ([D.bool v23, slcE (Enc.int .i64) v24, D.bool v25, slcE (Enc.int .i64) v26]))] _ _
      obtain ⟨⟨⟨v27, v28⟩, ⟨v29, v30⟩⟩, e31, h⟩ := bind_some h
      obtain ⟨⟨⟨v32, v33⟩, ⟨v34, v35⟩⟩, e36, h⟩ := bind_some h
      refine .regD hmix (.fa rfl f_ambleref01_Surd_0 <| .ldE ([D.bool a1, slcE (Enc.int .i64) a2, D.bool a3, slcE (Enc.int .i64) a4]) rfl rfl ly_ambleref01_Q rfl rfl <| .fa rfl f_ambleref01_Surd_1 <| .ldE ([D.bool a5, slcE (Enc.int .i64) a6, D.bool a7, slcE (Enc.int .i64) a8]) rfl rfl ly_ambleref01_Q rfl rfl <| .ldE ([D.bool v23, slcE (Enc.int .i64) v24, D.bool v25, slcE (Enc.int .i64) v26]) rfl rfl ly_ambleref01_Q rfl rfl <| .callG (C_r_Mul e31) ⟨rfl, rfl, trivial⟩ trivial trivial <| .callG (C_r_Add e36) ⟨rfl, rfl, trivial⟩ trivial trivial <| .bdQ ([D.bool v32, slcE (Enc.int .i64) v33, D.bool v34, slcE (Enc.int .i64) v35, D.bool false, D.nil, D.bool false, D.nil, D.bool false, D.nil, D.bool false, D.nil]) [(0, _, D.agg ([D.bool v32, slcE (Enc.int .i64) v33, D.bool v34, slcE (Enc.int .i64) v35]), [D.bool v32, slcE (Enc.int .i64) v33, D.bool v34, slcE (Enc.int .i64) v35])] z_ambleref01_Surd pl_ambleref01_Surd ⟨rfl, rfl, .agg _, rfl, trivial⟩ ⟨rfl, trivial⟩ ⟨.refl _, .refl _, .refl _, .refl _, .refl _, .refl _, .refl _, .refl _, .refl _, .refl _, .refl _, .refl _, trivial⟩ <| .stE ([D.bool v32, slcE (Enc.int .i64) v33, D.bool v34, slcE (Enc.int .i64) v35, D.bool false, D.nil, D.bool false, D.nil, D.bool false, D.nil, D.bool false, D.nil]) rfl rfl rfl ly_ambleref01_Surd rfl rfl rfl <| .nil) rfl (by kernel_rfl) ?_
      cases h
      refine .retG (fun _ _ hb => hb) rfl (.cons (.agg rfl rfl ly_ambleref01_Surd rfl) .nil) (.agg ⟨.refl _, .refl _, .refl _, .refl _, .refl _, .nilE _, .refl _, .nilE _, .refl _, .nilE _, .refl _, .nilE _, trivial⟩) trivial trivial
  · replace h := ite_neg_some c19 h
    obtain ⟨v37, e38, h⟩ := bind_some h
    refine .reg (.mv rfl <| .mv rfl <| .gYf rfl rfl rfl c19 <| .fa rfl f_ambleref01_Surd_1 <| .gYf rfl rfl rfl c19 <| .ldE ([D.bool a5, slcE (Enc.int .i64) a6, D.bool a7, slcE (Enc.int .i64) a8]) rfl rfl ly_ambleref01_Q rfl rfl <| .gYf rfl rfl rfl c19 <| .callG (C_r_Sign e38) ⟨rfl, trivial⟩ trivial trivial <| .gYf rfl rfl rfl c19 <| .cm rfl rfl rfl <| .pkFb rfl c19 rfl <| .nil) rfl ?_
    by_cases c39 : (v37 == 0) = true
    · replace h := ite_pos_some c39 h
      refine .cTb rfl c39 ?_
      obtain ⟨o40, hp41, h⟩ := bind_some h
      refine .cutX (fun i => o40 = i) (fun (i : Bool × (List Int) × Bool × (List Int)) => [(1, D.ref 1 0), (2, D.ref 2 0), (3, D.ref 3 0)]) (fun (i : Bool × (List Int) × Bool × (List Int)) => [(1, Hp.box 128 ([D.bool a1, slcE (Enc.int .i64) a2, D.bool a3, slcE (Enc.int .i64) a4, D.bool a5, slcE (Enc.int .i64) a6, D.bool a7, slcE (Enc.int .i64) a8, D.bool a9, slcE (Enc.int .i64) a10, D.bool a11, slcE (Enc.int .i64) a12])), (2, Hp.box 128 ([D.bool false, D.nil, D.bool false, D.nil, D.bool false, D.nil, D.bool false, D.nil, D.bool false, D.nil, D.bool false, D.nil])), (3, Hp.box 37 ([D.bool i.1, slcE (Enc.int .i64) i.2.1, D.bool i.2.2.1, slcE (Enc.int .i64) i.2.2.2]))]) ?_ ?_
      · have ho1 := h
        clear h
        have h := hp41
        clear hp41
        refine .reg (.mv rfl <| .not rfl <| .nil) rfl ?_
        by_cases c42 : (!v17) = true
        · replace h := ite_pos_some c42 h
          refine .cTb rfl c42 ?_
          refine .region (.bdQ ([D.bool false, D.nil, D.bool false, D.nil]) [] z_ambleref01_Q pl_ambleref01_Q trivial trivial ⟨.refl _, .refl _, .refl _, .refl _, trivial⟩ <| .stE ([D.bool false, D.nil, D.bool false, D.nil]) rfl rfl rfl ly_ambleref01_Q rfl rfl rfl <| .nil) rfl (fun _ _ hs => ⟨(false, [], false, []), (Option.some.inj h).symm, hs.sub ⟨⟨_, rfl, .refl _⟩, ⟨_, rfl, .refl _⟩, ⟨_, rfl, .refl _⟩, trivial⟩ ⟨⟨_, rfl, .refl _⟩, ⟨_, rfl, .refl _⟩, ⟨_, rfl, .box ⟨.refl _, .nilE _, .refl _, .nilE _, trivial⟩⟩, trivial⟩ rfl rfl⟩)
        · replace h := ite_neg_some c42 h
          refine .cFb rfl c42 ?_
          refine .skip (fun _ _ hs => ⟨(v13, v14, v15, v16), (Option.some.inj h).symm, hs.sub ⟨⟨_, rfl, .refl _⟩, ⟨_, rfl, .refl _⟩, ⟨_, rfl, .refl _⟩, trivial⟩ ⟨⟨_, rfl, .refl _⟩, ⟨_, rfl, .refl _⟩, ⟨_, rfl, .refl _⟩, trivial⟩ rfl rfl⟩)
      · rintro ⟨v43, v44, v45, v46⟩ rfl
        show Ok PP _ [(1, D.ref 1 0), (2, D.ref 2 0), (3, D.ref 3 0)] [(1, Hp.box 128 ([D.bool a1, slcE (Enc.int .i64) a2, D.bool a3, slcE (Enc.int .i64) a4, D.bool a5, slcE (Enc.int .i64) a6, D.bool a7, slcE (Enc.int .i64) a8, D.bool a9, slcE (Enc.int .i64) a10, D.bool a11, slcE (Enc.int .i64) a12])), (2, Hp.box 128 ([D.bool false, D.nil, D.bool false, D.nil, D.bool false, D.nil, D.bool false, D.nil, D.bool false, D.nil, D.bool false, D.nil])), (3, Hp.box 37 ([D.bool v43, slcE (Enc.int .i64) v44, D.bool v45, slcE (Enc.int .i64) v46]))] _ _
        obtain ⟨⟨⟨v47, v48⟩, ⟨v49, v50⟩⟩, e51, h⟩ := bind_some h
        obtain ⟨⟨⟨v52, v53⟩, ⟨v54, v55⟩⟩, e56, h⟩ := bind_some h
        refine .regD hmix (.fa rfl f_ambleref01_Surd_0 <| .ldE ([D.bool a1, slcE (Enc.int .i64) a2, D.bool a3, slcE (Enc.int .i64) a4]) rfl rfl ly_ambleref01_Q rfl rfl <| .fa rfl f_ambleref01_Surd_1 <| .ldE ([D.bool a5, slcE (Enc.int .i64) a6, D.bool a7, slcE (Enc.int .i64) a8]) rfl rfl ly_ambleref01_Q rfl rfl <| .ldE ([D.bool v43, slcE (Enc.int .i64) v44, D.bool v45, slcE (Enc.int .i64) v46]) rfl rfl ly_ambleref01_Q rfl rfl <| .callG (C_r_Mul e51) ⟨rfl, rfl, trivial⟩ trivial trivial <| .callG (C_r_Add e56) ⟨rfl, rfl, trivial⟩ trivial trivial <| .bdQ ([D.bool v52, slcE (Enc.int .i64) v53, D.bool v54, slcE (Enc.int .i64) v55, D.bool false, D.nil, D.bool false, D.nil, D.bool false, D.nil, D.bool false, D.nil]) [(0, _, D.agg ([D.bool v52, slcE (Enc.int .i64) v53, D.bool v54, slcE (Enc.int .i64) v55]), [D.bool v52, slcE (Enc.int .i64) v53, D.bool v54, slcE (Enc.int .i64) v55])] z_ambleref01_Surd pl_ambleref01_Surd ⟨rfl, rfl, .agg _, rfl, trivial⟩ ⟨rfl, trivial⟩ ⟨.refl _, .refl _, .refl _, .refl _, .refl _, .refl _, .refl _, .refl _, .refl _, .refl _, .refl _, .refl _, trivial⟩ <| .stE ([D.bool v52, slcE (Enc.int .i64) v53, D.bool v54, slcE (Enc.int .i64) v55, D.bool false, D.nil, D.bool false, D.nil, D.bool false, D.nil, D.bool false, D.nil]) rfl rfl rfl ly_ambleref01_Surd rfl rfl rfl <| .nil) rfl (by kernel_rfl) ?_
        cases h
        refine .retG (fun _ _ hb => hb) rfl (.cons (.agg rfl rfl ly_ambleref01_Surd rfl) .nil) (.agg ⟨.refl _, .refl _, .refl _, .refl _, .refl _, .nilE _, .refl _, .nilE _, .refl _, .nilE _, .refl _, .nilE _, trivial⟩) trivial trivial
    · replace h := ite_neg_some c39 h
      refine .cFb rfl c39 ?_
      refine .skip (Ok.on ?_)
      obtain ⟨⟨v57, v58⟩, e59, h⟩ := bind_some h
      obtain ⟨⟨⟨v60, v61⟩, ⟨v62, v63⟩⟩, e64, h⟩ := bind_some h
      refine .reg (.fa rfl f_ambleref01_Surd_2 <| .ldE ([D.bool a9, slcE (Enc.int .i64) a10, D.bool a11, slcE (Enc.int .i64) a12]) rfl rfl ly_ambleref01_Q rfl rfl <| .callG (C_r_Q_den e59) ⟨rfl, trivial⟩ trivial trivial <| .callG (C_r_Whole e64) ⟨rfl, trivial⟩ trivial trivial <| .alL ([D.bool false, D.nil, D.bool false, D.nil]) z_ambleref01_Q ⟨.refl _, .refl _, .refl _, .refl _, trivial⟩ rfl <| .stE ([D.bool v60, slcE (Enc.int .i64) v61, D.bool v62, slcE (Enc.int .i64) v63]) rfl rfl rfl ly_ambleref01_Q rfl rfl rfl <| .nil) rfl ?_
      obtain ⟨⟨⟨v65, v66⟩, ⟨v67, v68⟩⟩, e69, h⟩ := bind_some h
      obtain ⟨⟨v70, v71⟩, e72, h⟩ := bind_some h
      obtain ⟨⟨v73, v74⟩, e75, h⟩ := bind_some h
      obtain ⟨⟨⟨v76, v77⟩, ⟨v78, v79⟩⟩, e80, h⟩ := bind_some h
      refine .regD hmix (.fa rfl f_ambleref01_Surd_0 <| .ldE ([D.bool a1, slcE (Enc.int .i64) a2, D.bool a3, slcE (Enc.int .i64) a4]) rfl rfl ly_ambleref01_Q rfl rfl <| .fa rfl f_ambleref01_Surd_1 <| .ldE ([D.bool a5, slcE (Enc.int .i64) a6, D.bool a7, slcE (Enc.int .i64) a8]) rfl rfl ly_ambleref01_Q rfl rfl <| .ldE ([D.bool v60, slcE (Enc.int .i64) v61, D.bool v62, slcE (Enc.int .i64) v63]) rfl rfl ly_ambleref01_Q rfl rfl <| .callG (C_r_Div e69) ⟨rfl, rfl, trivial⟩ trivial trivial <| .fa rfl f_ambleref01_Surd_2 <| .fa rfl f_ambleref01_Q_0 <| .ldE ([D.bool a9, slcE (Enc.int .i64) a10]) rfl rfl ly_ambleref01_Z rfl rfl <| .fa rfl f_ambleref01_Surd_2 <| .ldE ([D.bool a9, slcE (Enc.int .i64) a10, D.bool a11, slcE (Enc.int .i64) a12]) rfl rfl ly_ambleref01_Q rfl rfl <| .callG (C_r_Q_den e72) ⟨rfl, trivial⟩ trivial trivial <| .callG (C_r_ZMul e75) ⟨rfl, rfl, trivial⟩ trivial trivial <| .callG (C_r_Whole e80) ⟨rfl, trivial⟩ trivial trivial <| .bdQ ([D.bool a1, slcE (Enc.int .i64) a2, D.bool a3, slcE (Enc.int .i64) a4, D.bool v65, slcE (Enc.int .i64) v66, D.bool v67, slcE (Enc.int .i64) v68, D.bool v76, slcE (Enc.int .i64) v77, D.bool v78, slcE (Enc.int .i64) v79]) [(0, _, D.agg ([D.bool a1, slcE (Enc.int .i64) a2, D.bool a3, slcE (Enc.int .i64) a4]), [D.bool a1, slcE (Enc.int .i64) a2, D.bool a3, slcE (Enc.int .i64) a4]), (4, _, D.agg ([D.bool v65, slcE (Enc.int .i64) v66, D.bool v67, slcE (Enc.int .i64) v68]), [D.bool v65, slcE (Enc.int .i64) v66, D.bool v67, slcE (Enc.int .i64) v68]), (8, _, D.agg ([D.bool v76, slcE (Enc.int .i64) v77, D.bool v78, slcE (Enc.int .i64) v79]), [D.bool v76, slcE (Enc.int .i64) v77, D.bool v78, slcE (Enc.int .i64) v79])] z_ambleref01_Surd pl_ambleref01_Surd ⟨rfl, rfl, .agg _, rfl, rfl, rfl, .agg _, rfl, rfl, rfl, .agg _, rfl, trivial⟩ ⟨rfl, rfl, rfl, trivial⟩ ⟨.refl _, .refl _, .refl _, .refl _, .refl _, .refl _, .refl _, .refl _, .refl _, .refl _, .refl _, .refl _, trivial⟩ <| .stE ([D.bool a1, slcE (Enc.int .i64) a2, D.bool a3, slcE (Enc.int .i64) a4, D.bool v65, slcE (Enc.int .i64) v66, D.bool v67, slcE (Enc.int .i64) v68, D.bool v76, slcE (Enc.int .i64) v77, D.bool v78, slcE (Enc.int .i64) v79]) rfl rfl rfl ly_ambleref01_Surd rfl rfl rfl <| .nil) rfl (by kernel_rfl) ?_
      cases h
      refine .retG (fun _ _ hb => hb) rfl (.cons (.agg rfl rfl ly_ambleref01_Surd rfl) .nil) (.refl _) trivial trivial
end
end Go.Am
namespace Go.Am
open Go.RowKit
def rt (a : Rat) : Rat := mkRat (isqrt a.num.natAbs : Nat) (isqrt a.den)
def issq (a : Rat) : Prop := isqrt a.num.natAbs * isqrt a.num.natAbs = a.num.natAbs ∧ isqrt a.den * isqrt a.den = a.den
instance (a : Rat) : Decidable (issq a) := inferInstanceAs (Decidable (_ ∧ _))
theorem isqrt_self_le (x : Nat) : isqrt x ≤ x := by
  rcases Nat.eq_zero_or_pos (isqrt x) with h | h
  · omega
  · exact Nat.le_trans (Nat.le_mul_of_pos_left _ h) (isqrt_le x)
theorem isqrt_pos {x : Nat} (h : x ≠ 0) : isqrt x ≠ 0 := by
  intro h0
  have := isqrt_lt x
  rw [h0] at this
  omega
theorem sz_rt (a : Rat) : sz (rt a) ≤ sz a := by
  have ha := sz_le.1 (Nat.le_refl (sz a))
  exact sz_mk _ _ _ (isqrt_pos a.den_nz) (by rw [Int.natAbs_natCast]; exact Nat.le_trans (blen_mono (isqrt_self_le _)) ha.1) (Nat.le_trans (blen_mono (isqrt_self_le _)) ha.2)
theorem cmpn_zero {x y : Nat} : (cmpn x y == 0) = decide (x = y) := by
  unfold cmpn
  by_cases h : x = y
  · subst h; simp
  · rw [decide_eq_false h]
    by_cases h1 : x < y
    · rw [if_pos h1]; rfl
    · rw [if_neg h1, if_pos (by omega)]; rfl
theorem cmpn_ne {x y : Nat} : (cmpn x y != 0) = decide (x ≠ y) := by
  have := cmpn_zero (x := x) (y := y)
  unfold bne
  rw [this]
  by_cases h : x = y
  · rw [decide_eq_true h, decide_eq_false (fun k => k h)]; rfl
  · rw [decide_eq_false h, decide_eq_true h]; rfl
theorem n_root_eq {a : Nat} (h : blen a ≤ 2199023255552) : n_root a = some (isqrt a) := must_of h rfl
theorem sq_bd {x : Nat} (h : blen x ≤ 400000000000) : sm (isqrt x) ∧ sm (isqrt x * isqrt x) :=
  ⟨sm_of (Nat.le_trans (blen_mono (isqrt_self_le x)) h) (by omega), sm_of (Nat.le_trans (blen_mono (isqrt_le x)) h) (by omega)⟩
theorem squareRoot_is (a : Rat) (h : qs' a) (h0 : ¬ a < 0) : m_squareRoot (decide (a.num < 0)) a.num.natAbs (a.den - 1) = some (if issq a then (rp (rt a), true) else (rp 0, false)) := by
  have h1 := (sz_le.1 h).1
  have h2 := (sz_le.1 h).2
  obtain ⟨s1, s2⟩ := sq_bd h1
  obtain ⟨s3, s4⟩ := sq_bd h2
  unfold m_squareRoot
  rw [n_root_eq (Nat.le_trans h1 (by omega)), Option.bind_some, Q_den_is a _ _ (qs_w h), Option.bind_some, n_root_eq (Nat.le_trans h2 (by omega)), Option.bind_some, n_mul_eq s1 s1, Option.bind_some, n_cmp_eq s2 (qs_smn (qs_w h)), Option.bind_some, cmpn_ne]
  by_cases c1 : isqrt a.num.natAbs * isqrt a.num.natAbs = a.num.natAbs
  · rw [if_neg (by simpa using c1), n_mul_eq s3 s3, Option.bind_some, Option.bind_some, n_cmp_eq s4 (qs_smd (qs_w h)), Option.bind_some, cmpn_ne]
    by_cases c2 : isqrt a.den * isqrt a.den = a.den
    · rw [if_neg (by simpa using c2), if_pos (show issq a from ⟨c1, c2⟩)]
      have hq := quotient_is (isqrt a.num.natAbs : Nat) (isqrt a.den) (isqrt_pos a.den_nz) (by rw [Int.natAbs_natCast]; exact s1) s3
      rw [nat_lt0, Int.natAbs_natCast] at hq
      rw [hq]; rfl
    · rw [if_pos (by simpa using c2), if_neg (fun h : issq a => c2 h.2)]; rfl
  · rw [if_pos (by simpa using c1), if_neg (fun h : issq a => c1 h.1)]; rfl
def q_sqrt (a : Rat) : Option (Rat × Bool) := must (qs' a ∧ ¬ a < 0) (some (if issq a then (rt a, true) else (0, false)))
theorem Q_sqrt {a1 : Rat} {r2 : Rat} {r3 : Bool} (h : q_sqrt a1 = some (r2, r3)) : CtrG PP 232 [] [qD a1] [] (D.tup [qD r2, D.bool r3]) := by
  obtain ⟨⟨h0, h1⟩, h⟩ := must_some h
  have e := squareRoot_is a1 h0 h1
  injection h with h
  by_cases hd : issq a1
  · rw [if_pos hd] at h e; injection h with h1 h2; subst h1; subst h2
    exact C_squareRoot e
  · rw [if_neg hd] at h e; injection h with h1 h2; subst h1; subst h2
    exact C_squareRoot e
section
variable {l m : List Int}
theorem abs_num {a : Rat} (h0 : ¬ a < 0) : decide (a.num < 0) = false := decide_eq_false (fun h => h0 ((num_neg_iff a).1 h))
theorem r_square_is (a : Rat) (h : qs' a) (h0 : ¬ a < 0) (hl : denL a.den l) : m_r_square (decide (a.num < 0)) (dg10 a.num.natAbs) false l = some (rr (rt a), decide (issq a)) := by
  have h1 := (sz_le.1 h).1
  have h2 := (sz_le.1 h).2
  obtain ⟨s1, s2⟩ := sq_bd h1
  obtain ⟨s3, s4⟩ := sq_bd h2
  unfold m_r_square
  rw [abs_num h0, ZRoot_is _ (Nat.le_trans h1 (by omega)), r_Q_den_is a _ _ hl]
  simp only [Option.bind_some]
  rw [ZRoot_is _ (Nat.le_trans h2 (by omega))]
  simp only [Option.bind_some]
  have hq := QOf_pos (isqrt a.num.natAbs : Nat) (isqrt a.den) (isqrt_pos a.den_nz) (by rw [Int.natAbs_natCast]; exact s1) s3
  rw [nat_lt0, Int.natAbs_natCast] at hq
  rw [hq]
  simp only [Option.bind_some, rr, zz]
  rw [nmul _ _ s1 s1]
  simp only [Option.bind_some]
  rw [ncmp _ _ s2 (qs_smn (qs_w h)), nmul _ _ s3 s3]
  simp only [Option.bind_some]
  rw [ncmp _ _ s4 (qs_smd (qs_w h))]
  simp only [Option.bind_some]
  rw [cmpn_zero, cmpn_zero]
  by_cases c1 : isqrt a.num.natAbs * isqrt a.num.natAbs = a.num.natAbs
  · rw [if_pos (decide_eq_true c1)]
    congr 2
    by_cases c2 : isqrt a.den * isqrt a.den = a.den
    · rw [decide_eq_true c2, decide_eq_true (show issq a from ⟨c1, c2⟩)]
    · rw [decide_eq_false c2, decide_eq_false (fun h : issq a => c2 h.2)]
  · rw [if_neg (by simpa using c1), decide_eq_false (fun h : issq a => c1 h.1)]; rfl
end
def normalR (a b d : Rat) : Rat × Rat × Rat := if issq d then (a + b * rt d, 0, 0) else if b = 0 then (a, 0, 0) else (a, b / (d.den : Rat), ((d.num * d.den : Int) : Rat))
def r_normal (a b d : Rat) : Option (Rat × Rat × Rat) := must (qs' a ∧ qs' b ∧ qs' d ∧ ¬ d < 0) (some (normalR a b d))
abbrev rqL3 (a b c : Rat) (l m n : List Int) : D := .agg [.bool (decide (a.num < 0)), slcE (Enc.int .i64) (dg10 a.num.natAbs), .bool false, slcE (Enc.int .i64) l, .bool (decide (b.num < 0)), slcE (Enc.int .i64) (dg10 b.num.natAbs), .bool false, slcE (Enc.int .i64) m, .bool (decide (c.num < 0)), slcE (Enc.int .i64) (dg10 c.num.natAbs), .bool false, slcE (Enc.int .i64) n]
theorem rq_open3 {a b c : Rat} {ε : Env} {w : World} {S : Reg} {v : Value} (h : (D.agg (rqC a ++ rqC b ++ rqC c)).p ε w S v) : ∃ l m n, denL a.den l ∧ denL b.den m ∧ denL c.den n ∧ (rqL3 a b c l m n).p ε w S v := by
  obtain ⟨cs, e, h1, ha⟩ := h
  rcases cs with _ | ⟨c1, _ | ⟨c2, _ | ⟨c3, _ | ⟨c4, _ | ⟨c5, _ | ⟨c6, _ | ⟨c7, _ | ⟨c8, _ | ⟨c9, _ | ⟨c10, _ | ⟨c11, _ | ⟨c12, cs⟩⟩⟩⟩⟩⟩⟩⟩⟩⟩⟩⟩
  · exact ha.elim
  · exact ha.2.elim
  · exact ha.2.2.elim
  · exact ha.2.2.2.elim
  · exact ha.2.2.2.2.elim
  · exact ha.2.2.2.2.2.elim
  · exact ha.2.2.2.2.2.2.elim
  · exact ha.2.2.2.2.2.2.2.elim
  · exact ha.2.2.2.2.2.2.2.2.elim
  · exact ha.2.2.2.2.2.2.2.2.2.elim
  · exact ha.2.2.2.2.2.2.2.2.2.2.elim
  · exact ha.2.2.2.2.2.2.2.2.2.2.2.elim
  · obtain ⟨a1, a2, a3, ⟨l, hl, hp⟩, b1, b2, b3, ⟨m, hm, hq⟩, d1, d2, d3, ⟨n, hn, hr⟩, a5⟩ := ha
    exact ⟨l, m, n, hl, hm, hn, _, e, h1, a1, a2, a3, hp, b1, b2, b3, hq, d1, d2, d3, hr, a5⟩
theorem CtrG.rq3 {P : Program} {f : FuncId} {a b c : Rat} {ds : List D} {d : D} (h : ∀ l m n, denL a.den l → denL b.den m → denL c.den n → CtrG P f [] (rqL3 a b c l m n :: ds) [] d) : CtrG P f [] (D.agg (rqC a ++ rqC b ++ rqC c) :: ds) [] d := by
  refine .any (fun (x : List Int × List Int × List Int) => rqL3 a b c x.1 x.2.1 x.2.2 :: ds) (fun x => denL a.den x.1 ∧ denL b.den x.2.1 ∧ denL c.den x.2.2) (dg10 a.den, dg10 b.den, dg10 c.den) ⟨.inl rfl, .inl rfl, .inl rfl⟩ (fun x hx => h _ _ _ hx.1 hx.2.1 hx.2.2) rfl ?_
  intro ε w S vs hv
  cases vs with
  | nil => exact hv.elim
  | cons v vs =>
    obtain ⟨l, m, n, hl, hm, hn, hp⟩ := rq_open3 hv.1
    exact ⟨(l, m, n), ⟨hl, hm, hn⟩, hp, hv.2⟩
theorem denD_of' {d : Nat} {l : List Int} (h : denL d l) : Le (slcE (Enc.int .i64) l) (denD d) := ⟨fun _ _ _ _ hp => ⟨_, h, hp⟩, fun r hr => by cases hr⟩
theorem rq_close3 (a b c : Rat) {l m n : List Int} (hl : denL a.den l) (hm : denL b.den m) (hn : denL c.den n) : Le (rqL3 a b c l m n) (D.agg (rqC a ++ rqC b ++ rqC c)) :=
  .agg ⟨.refl _, .refl _, .refl _, denD_of' hl, .refl _, .refl _, .refl _, denD_of' hm, .refl _, .refl _, .refl _, denD_of' hn, trivial⟩
theorem sgn_zero (b : Rat) : (sgn b == 0) = decide (b = 0) := by
  unfold sgn
  by_cases h : b = 0
  · subst h; rfl
  · rw [decide_eq_false h, if_neg h]; split <;> rfl
theorem r_Normal_is (a b d : Rat) {l m n : List Int} (hl : denL a.den l) (hm : denL b.den m) (hn : denL d.den n) (ha : qs' a) (hb : qs' b) (hd : qs' d) (h0 : ¬ d < 0) :
    ∃ l' m' n', denL (normalR a b d).1.den l' ∧ denL (normalR a b d).2.1.den m' ∧ denL (normalR a b d).2.2.den n' ∧
    m_r_Surd_Normal (decide (a.num < 0)) (dg10 a.num.natAbs) false l (decide (b.num < 0)) (dg10 b.num.natAbs) false m (decide (d.num < 0)) (dg10 d.num.natAbs) false n = some ((zz (normalR a b d).1.num, (false, l')), (zz (normalR a b d).2.1.num, (false, m')), (zz (normalR a b d).2.2.num, (false, n'))) := by
  have hz1 : denL (0 : Rat).den [] := .inr ⟨rfl, rfl⟩
  unfold m_r_Surd_Normal
  rw [r_square_is d hd h0 hn]
  simp only [Option.bind_some, rr, zz]
  have hrt : sz (rt d) ≤ 400000000000 := Nat.le_trans (sz_rt d) hd
  have hsb : sz b ≤ 400000000000 := hb
  by_cases hs : issq d
  · have e : normalR a b d = (a + b * rt d, 0, 0) := if_pos hs
    rw [e]
    refine ⟨dg10 (a + b * rt d).den, [], [], .inl rfl, hz1, hz1, ?_⟩
    have hbr : qw (b * rt d) := Nat.le_trans (sz_mul _ _) (by omega)
    rw [decide_eq_true hs, if_pos rfl, if_neg (by decide)]
    simp only [Option.bind_some]
    rw [r_Mul_is b (rt d) (qs_w hb) (Nat.le_trans hrt (by omega)) hm (.inl rfl)]
    simp only [Option.bind_some, rr, zz]
    rw [r_Add_is a _ (qs_w ha) hbr hl (.inl rfl)]
    simp only [Option.bind_some, rr, zz]
    rw [Rat.zero_num, show Int.natAbs 0 = 0 from rfl, dg10_zero]; rfl
  · rw [decide_eq_false hs, if_neg (by decide), r_Sign_is', Option.bind_some, sgn_zero]
    by_cases h1 : b = 0
    · have e : normalR a b d = (a, 0, 0) := by unfold normalR; rw [if_neg hs, if_pos h1]
      rw [e]
      refine ⟨dg10 a.den, [], [], .inl rfl, hz1, hz1, ?_⟩
      rw [if_pos (decide_eq_true h1), if_pos (by decide)]
      simp only [Option.bind_some]
      have hz : qw (0 : Rat) := by unfold qw sz; rw [Rat.zero_num, Rat.zero_den]; decide
      have hm0 := r_Mul_is b 0 (qs_w hb) hz hm hz1
      rw [Rat.zero_num, show Int.natAbs 0 = 0 from rfl, dg10_zero, Rat.mul_zero] at hm0
      have hm1 : m_r_Mul (decide (b.num < 0)) (dg10 b.num.natAbs) false m false [] false [] = some (rr 0) := hm0
      rw [hm1]
      simp only [Option.bind_some, rr, zz]
      rw [r_Add_is a 0 (qs_w ha) hz hl (.inl rfl), Rat.add_zero]
      simp only [Option.bind_some, rr, zz]
      rw [Rat.zero_num, show Int.natAbs 0 = 0 from rfl, dg10_zero]; rfl
    · have e : normalR a b d = (a, b / (d.den : Rat), ((d.num * d.den : Int) : Rat)) := by unfold normalR; rw [if_neg hs, if_neg h1]
      rw [e]
      refine ⟨l, dg10 (b / (d.den : Rat)).den, dg10 1, hl, .inl rfl, .inl (by rw [Rat.den_intCast]), ?_⟩
      rw [if_neg (by simpa using h1), r_Q_den_is d _ _ hn]
      simp only [Option.bind_some]
      have hw := r_Whole_is (d.den : Int)
      rw [nat_lt0, Int.natAbs_natCast, Rat.intCast_natCast] at hw
      rw [hw]
      simp only [Option.bind_some, rr, zz]
      have hdz : (d.den : Rat) ≠ 0 := by
        intro h; rw [Rat.natCast_eq_zero_iff] at h; exact d.den_nz h
      have hdd : qw (d.den : Rat) := Nat.le_trans (sz_den d) (by have : sz d ≤ 400000000000 := hd; omega)
      rw [r_Div_is b (d.den : Rat) hdz (qs_w hb) hdd hm (.inl rfl)]
      simp only [Option.bind_some, rr, zz]
      rw [mul_den d d _ (qs_smn (qs_w hd)) (qs_smd (qs_w hd))]
      simp only [Option.bind_some, zz]
      rw [r_Whole_is]
      simp only [Option.bind_some, rr, zz]
      rw [Rat.num_intCast, Rat.den_intCast]
theorem R_normal {a1 : Rat} {a2 : Rat} {a3 : Rat} {r4 : Rat} {r5 : Rat} {r6 : Rat} (h : r_normal a1 a2 a3 = some (r4, r5, r6)) : CtrG PP 122 [] [D.agg (rqC (a1) ++ rqC (a2) ++ rqC (a3))] [] (D.agg (rqC (r4) ++ rqC (r5) ++ rqC (r6))) := by
  obtain ⟨⟨ha, hb, hd, h0⟩, h⟩ := must_some h
  injection h with h
  refine .rq3 fun l m n hl hm hn => ?_
  obtain ⟨l', m', n', k1, k2, k3, e⟩ := r_Normal_is a1 a2 a3 hl hm hn ha hb hd h0
  rw [h] at k1 k2 k3 e
  exact (C_r_Surd_Normal e).outR (rq_close3 _ _ _ k1 k2 k3)
end Go.Am
namespace Go.Proofs
open Go.Shelf
def Tryz.lays160_ren : Go.Shelf.Ren := ⟨fun | 160 => 213 | 232 => 241 | 231 => 240 | 227 => 242 | 234 => 244 | 233 => 243 | 236 => 246 | 235 => 245 | 228 => 258 | 271 => 261 | 151 => 260 | 197 => 259 | 120 => 266 | 152 => 265 | 260 => 264 | 137 => 267 | 119 => 268 | 224 => 256 | 225 => 255 | 217 => 254 | 266 => 262 | n => n, fun | 9 => 9 | 4 => 4 | 3 => 3 | 5 => 5 | 117 => 271 | 116 => 270 | 0 => 0 | 124 => 274 | 21 => 21 | 105 => 283 | 46 => 246 | 119 => 288 | 139 => 291 | 138 => 290 | n => n, fun | 3 => 1 | 4 => 2 | n => n⟩
theorem Tryz.lays160 : Go.Proofs.Lays.n160 Tryz.prog Tryz.lays160_ren := {
  mixed := by kernel_rfl
  f119 := Tryz.func268.trans (congrArg some (by kernel_rfl))
  f120 := Tryz.func266.trans (congrArg some (by kernel_rfl))
  f137 := Tryz.func267.trans (congrArg some (by kernel_rfl))
  f151 := Tryz.func260.trans (congrArg some (by kernel_rfl))
  f152 := Tryz.func265.trans (congrArg some (by kernel_rfl))
  f160 := Tryz.func213.trans (congrArg some (by kernel_rfl))
  f197 := Tryz.func259.trans (congrArg some (by kernel_rfl))
  f217 := Tryz.func254.trans (congrArg some (by kernel_rfl))
  f224 := Tryz.func256.trans (congrArg some (by kernel_rfl))
  f225 := Tryz.func255.trans (congrArg some (by kernel_rfl))
  f227 := Tryz.func242.trans (congrArg some (by kernel_rfl))
  f228 := Tryz.func258.trans (congrArg some (by kernel_rfl))
  f231 := Tryz.func240.trans (congrArg some (by kernel_rfl))
  f232 := Tryz.func241.trans (congrArg some (by kernel_rfl))
  f233 := Tryz.func243.trans (congrArg some (by kernel_rfl))
  f234 := Tryz.func244.trans (congrArg some (by kernel_rfl))
  f235 := Tryz.func245.trans (congrArg some (by kernel_rfl))
  f236 := Tryz.func246.trans (congrArg some (by kernel_rfl))
  f260 := Tryz.func264.trans (congrArg some (by kernel_rfl))
  f266 := Tryz.func262.trans (congrArg some (by kernel_rfl))
  f271 := Tryz.func261.trans (congrArg some (by kernel_rfl))
  t0 := Tryz.underlying0
  a0 := Tryz.isAgg0
  z0 := Tryz.sizeOf0
  v0 := Tryz.zeroValue0
  t3 := Tryz.underlying3
  a3 := Tryz.isAgg3
  z3 := Tryz.sizeOf3
  v3 := Tryz.zeroValue3
  t4 := Tryz.underlying4
  a4 := Tryz.isAgg4
  z4 := Tryz.sizeOf4
  v4 := Tryz.zeroValue4
  t5 := Tryz.underlying5
  a5 := Tryz.isAgg5
  z5 := Tryz.sizeOf5
  v5 := Tryz.zeroValue5
  t9 := Tryz.underlying9
  a9 := Tryz.isAgg9
  z9 := Tryz.sizeOf9
  v9 := Tryz.zeroValue9
  t21 := Tryz.underlying21
  a21 := Tryz.isAgg21
  z21 := Tryz.sizeOf21
  v21 := Tryz.zeroValue21
  t46 := Tryz.underlying246
  a46 := Tryz.isAgg246
  z46 := Tryz.sizeOf246
  v46 := Tryz.zeroValue246
  t105 := Tryz.underlying283
  a105 := Tryz.isAgg283
  z105 := Tryz.sizeOf283
  v105 := Tryz.zeroValue283
  t116 := Tryz.underlying270
  a116 := Tryz.isAgg270
  z116 := Tryz.sizeOf270
  t117 := Tryz.underlying271
  a117 := Tryz.isAgg271
  z117 := Tryz.sizeOf271
  v117 := Tryz.zeroValue271
  t119 := Tryz.underlying288
  a119 := Tryz.isAgg288
  z119 := Tryz.sizeOf288
  t124 := Tryz.underlying274
  a124 := Tryz.isAgg274
  z124 := Tryz.sizeOf274
  v124 := Tryz.zeroValue274
  t138 := Tryz.underlying290
  a138 := Tryz.isAgg290
  z138 := Tryz.sizeOf290
  v138 := Tryz.zeroValue290
  t139 := Tryz.underlying291
  a139 := Tryz.isAgg291
  z139 := Tryz.sizeOf291
  v139 := Tryz.zeroValue291
  g3 := by kernel_rfl
  g4 := by kernel_rfl }
def Tryz.lays219_ren : Go.Shelf.Ren := ⟨fun | 219 => 239 | 217 => 254 | 225 => 255 | 224 => 256 | 267 => 257 | 266 => 262 | 314 => 263 | n => n, fun | 9 => 9 | 3 => 3 | 4 => 4 | 5 => 5 | 46 => 246 | 146 => 275 | 51 => 230 | n => n, fun | 1 => 0 | n => n⟩
theorem Tryz.lays219 : Go.Proofs.Lays.n219 Tryz.prog Tryz.lays219_ren := {
  mixed := by kernel_rfl
  f217 := Tryz.func254.trans (congrArg some (by kernel_rfl))
  f219 := Tryz.func239.trans (congrArg some (by kernel_rfl))
  f224 := Tryz.func256.trans (congrArg some (by kernel_rfl))
  f225 := Tryz.func255.trans (congrArg some (by kernel_rfl))
  f266 := Tryz.func262.trans (congrArg some (by kernel_rfl))
  f267 := Tryz.func257.trans (congrArg some (by kernel_rfl))
  f314 := Tryz.func263.trans (congrArg some (by kernel_rfl))
  t3 := Tryz.underlying3
  a3 := Tryz.isAgg3
  z3 := Tryz.sizeOf3
  v3 := Tryz.zeroValue3
  t4 := Tryz.underlying4
  a4 := Tryz.isAgg4
  z4 := Tryz.sizeOf4
  v4 := Tryz.zeroValue4
  t5 := Tryz.underlying5
  a5 := Tryz.isAgg5
  z5 := Tryz.sizeOf5
  v5 := Tryz.zeroValue5
  t9 := Tryz.underlying9
  a9 := Tryz.isAgg9
  z9 := Tryz.sizeOf9
  v9 := Tryz.zeroValue9
  t46 := Tryz.underlying246
  a46 := Tryz.isAgg246
  z46 := Tryz.sizeOf246
  v46 := Tryz.zeroValue246
  t51 := Tryz.underlying230
  a51 := Tryz.isAgg230
  z51 := Tryz.sizeOf230
  v51 := Tryz.zeroValue230
  t146 := Tryz.underlying275
  a146 := Tryz.isAgg275
  z146 := Tryz.sizeOf275
  v146 := Tryz.zeroValue275
  g1 := by kernel_rfl }
open Go.RowKit Go.Lib in
theorem Tryz.stringslite_Index_one (s : ByteArray) (c : UInt8) (w : World) :
    Calls Tryz.prog 239 #[.string s, .string ⟨#[c]⟩] w fun e w' => e = .returned (.int .i64 (Lib.indexByte s.data.toList c)) ∧ w' = w := Any.stringslite_Index_one Tryz.lays219 s c w
end Go.Proofs
namespace Go.Am
open Go.RowKit
theorem Ctr.ofCalls {P : Program} {f : FuncId} {ss : List (List UInt8)} {d : D} (hok : fnOk P f = true) (hnm : d.nm = []) (v : Value) (hv : ∀ ε w S, d.p ε w S v)
    (h : ∀ w, Calls P f (ss.map fun s => Value.string ⟨s.toArray⟩).toArray w (fun e w' => e = .returned v ∧ Below w.heap.size w w')) : Ctr P f (ss.map strD) d where
  ok := hok
  nms := by
    induction ss with
    | nil => rfl
    | cons s ss ih => exact nms_map (fun _ => rfl) (s :: ss)
  nm := hnm
  calls := by
    intro A w vs hvs
    have e : vs = ss.map fun s => Value.string ⟨s.toArray⟩ := by
      clear h
      induction ss generalizing vs with
      | nil => cases vs with | nil => rfl | cons _ _ => exact hvs.elim
      | cons s ss ih =>
        cases vs with
        | nil => exact hvs.elim
        | cons v vs => rw [List.map_cons, ih vs hvs.2, show v = _ from hvs.1]
    subst e
    exact (h w).mono (fun e w' ⟨h1, h2⟩ => ⟨v, h1, hv _ _ _, h2⟩)
def x_trim (s cut : List UInt8) : Option (List UInt8) := must (s.length ≤ 9223372036854775807 ∧ cut.length < 4294967281 ∧ ∀ b ∈ cut, b.toNat < 128) (some (Lib.trimS s cut))
theorem S_trim {s cut r : List UInt8} (h : x_trim s cut = some r) : CtrG PP 213 [] [strD s, strD cut] [] (strD r) := by
  obtain ⟨⟨h0, h1, h2⟩, h⟩ := must_some h
  injection h with h; subst h
  refine (Ctr.ofCalls (ss := [s, cut]) (by kernel_rfl) rfl (.string ⟨(Lib.trimS s cut).toArray⟩) (fun _ _ _ => rfl) (fun w => ?_)).gen
  exact Go.Proofs.Any.strings_Trim_ascii Go.Proofs.Tryz.lays160 (fun _ => by kernel_rfl) (by kernel_rfl) ⟨s.toArray⟩ ⟨cut.toArray⟩ w h0 h1 (fun j b hj => h2 b (List.mem_of_getElem? hj))
def x_index (s sep : List UInt8) : Option Int := must (sep.length = 1) (some (Lib.indexByte s (sep.getD 0 0)))
theorem S_index {s sep : List UInt8} {r : Int} (h : x_index s sep = some r) : CtrG PP 239 [] [strD s, strD sep] [] (D.int .i64 r) := by
  obtain ⟨h0, h⟩ := must_some h
  injection h with h; subst h
  match sep, h0 with
  | [c], _ =>
    refine (Ctr.ofCalls (ss := [s, [c]]) (by kernel_rfl) rfl (.int .i64 (Lib.indexByte s c)) (fun _ _ _ => rfl) (fun w => ?_)).gen
    exact (Go.Proofs.Tryz.stringslite_Index_one ⟨s.toArray⟩ c w).mono (fun e w' ⟨h1, h2⟩ => ⟨h1, h2 ▸ Below.refl _ _⟩)
end Go.Am
namespace Go.Am
open Go.RowKit
set_option maxRecDepth 100000
noncomputable section
def m_sl_HasPrefix (a1 : List UInt8) (a2 : List UInt8) : Option Bool := (if (decide ((a1.length : Int) ≥ (a2.length : Int))) = true then must ((0 : Int) ≤ (a2.length : Int) ∧ ((a2.length : Int) : Int) ≤ (a1.length : Int)) (some ((List.take (a2.length : Int).toNat a1) == a2)) else some false)
theorem C_sl_HasPrefix {a1 : List UInt8} {a2 : List UInt8} {r5 : Bool} (h : m_sl_HasPrefix a1 a2 = some r5) : CtrG PP 238 [] [strD a1, strD a2] [] (D.bool r5) := by
  unfold m_sl_HasPrefix at h
  refine .of Go.Proofs.Tryz.func238 rfl (by kernel_rfl) rfl rfl rfl rfl rfl rfl (fun A w0 L b => ?_)
  show Ok PP _ [(0, strD a1), (1, strD a2)] [] _ _
  refine .reg (.asg rfl <| .nil) rfl ?_
  by_cases c3 : (decide ((a1.length : Int) ≥ (a2.length : Int))) = true
  · replace h := ite_pos_some c3 h
    obtain ⟨k4, h⟩ := must_some h
    refine .reg (.mv rfl <| .tlen rfl is_string <| .mv rfl <| .tlen rfl is_string <| .cm rfl rfl rfl <| .mv rfl <| .gYt rfl rfl rfl c3 <| .mv rfl <| .gYt rfl rfl rfl c3 <| .mv rfl <| .gYt rfl rfl rfl c3 <| .tlen rfl is_string <| .gYt rfl rfl rfl c3 <| .thi rfl rfl is_string k4.1 k4.2 <| .gYt rfl rfl rfl c3 <| .mv rfl <| .gYt rfl rfl rfl c3 <| .teq rfl rfl <| .pkTb rfl c3 rfl <| .asg rfl <| .nil) rfl ?_
    cases h
    refine .retG (fun _ _ hb => hb) rfl (.cons (.tmp rfl) .nil) (.refl _) trivial trivial
  · replace h := ite_neg_some c3 h
    refine .reg (.mv rfl <| .tlen rfl is_string <| .mv rfl <| .tlen rfl is_string <| .cm rfl rfl rfl <| .mv rfl <| .gNt rfl rfl rfl c3 <| .gNt rfl rfl rfl c3 <| .gNt rfl rfl rfl c3 <| .gNt rfl rfl rfl c3 <| .gNt rfl rfl rfl c3 <| .gNt rfl rfl rfl c3 <| .pkFb rfl c3 rfl <| .asg rfl <| .nil) rfl ?_
    cases h
    refine .retG (fun _ _ hb => hb) rfl (.cons (.tmp rfl) .nil) (.refl _) trivial trivial
def m_sl_CutPrefix (a1 : List UInt8) (a2 : List UInt8) : Option ((List UInt8) × Bool) := (m_sl_HasPrefix a1 a2).bind fun v3 => (if (!v3) = true then some (a1, false) else must ((0 : Int) ≤ (a2.length : Int) ∧ ((a2.length : Int) : Int) ≤ (a1.length : Int)) (some ((List.drop (a2.length : Int).toNat a1), true)))
theorem C_sl_CutPrefix {a1 : List UInt8} {a2 : List UInt8} {r7 : List UInt8} {r8 : Bool} (h : m_sl_CutPrefix a1 a2 = some (r7, r8)) : CtrG PP 209 [] [strD a1, strD a2] [] (D.tup [strD r7, D.bool r8]) := by
  unfold m_sl_CutPrefix at h
  refine .of Go.Proofs.Tryz.func209 rfl (by kernel_rfl) rfl rfl rfl rfl rfl rfl (fun A w0 L b => ?_)
  show Ok PP _ [(0, strD a1), (1, strD a2)] [] _ _
  refine .reg (.asg rfl <| .asg rfl <| .nil) rfl ?_
  refine .sq ?_
  obtain ⟨v3, e4, h⟩ := bind_some h
  refine .reg (.mv rfl <| .mv rfl <| .callG (C_sl_HasPrefix e4) ⟨rfl, rfl, trivial⟩ trivial trivial <| .not rfl <| .nil) rfl ?_
  by_cases c5 : (!v3) = true
  · replace h := ite_pos_some c5 h
    refine .cTb rfl c5 ?_
    refine .reg (.mv rfl <| .asg rfl <| .asg rfl <| .nil) rfl ?_
    cases h
    refine .retG (fun _ _ hb => hb) rfl (.cons (.tmp rfl) (.cons (.tmp rfl) .nil)) (.refl _) trivial trivial
  · replace h := ite_neg_some c5 h
    refine .cFb rfl c5 ?_
    refine .skip (Ok.on ?_)
    obtain ⟨k6, h⟩ := must_some h
    refine .reg (.mv rfl <| .mv rfl <| .tlen rfl is_string <| .tlo rfl rfl is_string k6.1 k6.2 <| .asg rfl <| .asg rfl <| .nil) rfl ?_
    cases h
    refine .retG (fun _ _ hb => hb) rfl (.cons (.tmp rfl) (.cons (.tmp rfl) .nil)) (.refl _) trivial trivial
def m_s_CutPrefix (a1 : List UInt8) (a2 : List UInt8) : Option ((List UInt8) × Bool) := (m_sl_CutPrefix a1 a2).bind fun (v3, v4) => some (v3, v4)
theorem C_s_CutPrefix {a1 : List UInt8} {a2 : List UInt8} {r6 : List UInt8} {r7 : Bool} (h : m_s_CutPrefix a1 a2 = some (r6, r7)) : CtrG PP 144 [] [strD a1, strD a2] [] (D.tup [strD r6, D.bool r7]) := by
  unfold m_s_CutPrefix at h
  refine .of Go.Proofs.Tryz.func144 rfl (by kernel_rfl) rfl rfl rfl rfl rfl rfl (fun A w0 L b => ?_)
  show Ok PP _ [(0, strD a1), (1, strD a2)] [] _ _
  refine .reg (.asg rfl <| .asg rfl <| .nil) rfl ?_
  obtain ⟨⟨v3, v4⟩, e5, h⟩ := bind_some h
  refine .reg (.mv rfl <| .mv rfl <| .callG (C_sl_CutPrefix e5) ⟨rfl, rfl, trivial⟩ trivial trivial <| .ext rfl rfl <| .ext rfl rfl <| .asg rfl <| .asg rfl <| .nil) rfl ?_
  cases h
  refine .retG (fun _ _ hb => hb) rfl (.cons (.tmp rfl) (.cons (.tmp rfl) .nil)) (.refl _) trivial trivial
def m_sl_Cut (a1 : List UInt8) (a2 : List UInt8) : Option ((List UInt8) × (List UInt8) × Bool) := (x_index a1 a2).bind fun v3 => (if (decide (v3 ≥ 0)) = true then must ((0 : Int) ≤ v3 ∧ (v3 : Int) ≤ (a1.length : Int)) (must ((0 : Int) ≤ (IntKind.i64.wrap (v3 + (a2.length : Int))) ∧ ((IntKind.i64.wrap (v3 + (a2.length : Int))) : Int) ≤ (a1.length : Int)) (some ((List.take v3.toNat a1), (List.drop (IntKind.i64.wrap (v3 + (a2.length : Int))).toNat a1), true))) else some (a1, ([] : List UInt8), false))
theorem C_sl_Cut {a1 : List UInt8} {a2 : List UInt8} {r8 : List UInt8} {r9 : List UInt8} {r10 : Bool} (h : m_sl_Cut a1 a2 = some (r8, r9, r10)) : CtrG PP 211 [] [strD a1, strD a2] [] (D.tup [strD r8, strD r9, D.bool r10]) := by
  unfold m_sl_Cut at h
  refine .of Go.Proofs.Tryz.func211 rfl (by kernel_rfl) rfl rfl rfl rfl rfl rfl (fun A w0 L b => ?_)
  show Ok PP _ [(0, strD a1), (1, strD a2)] [] _ _
  refine .reg (.asg rfl <| .asg rfl <| .asg rfl <| .nil) rfl ?_
  refine .sq ?_
  obtain ⟨v3, e4, h⟩ := bind_some h
  refine .reg (.mv rfl <| .mv rfl <| .callG (S_index e4) ⟨rfl, rfl, trivial⟩ trivial trivial <| .asg rfl <| .nil) rfl ?_
  refine .reg (.mv rfl <| .cm rfl rfl rfl <| .nil) rfl ?_
  by_cases c5 : (decide (v3 ≥ 0)) = true
  · replace h := ite_pos_some c5 h
    refine .cTb rfl c5 ?_
    obtain ⟨k6, h⟩ := must_some h
    obtain ⟨k7, h⟩ := must_some h
    refine .regD hmix (.mv rfl <| .mv rfl <| .thi rfl rfl is_string k6.1 k6.2 <| .mv rfl <| .mv rfl <| .mv rfl <| .tlen rfl is_string <| .ar rfl rfl rfl <| .tlo rfl rfl is_string k7.1 k7.2 <| .asg rfl <| .asg rfl <| .asg rfl <| .nil) rfl (by kernel_rfl) ?_
    cases h
    refine .retG (fun _ _ hb => hb) rfl (.cons (.tmp rfl) (.cons (.tmp rfl) (.cons (.tmp rfl) .nil))) (.refl _) trivial trivial
  · replace h := ite_neg_some c5 h
    refine .cFb rfl c5 ?_
    refine .skip (Ok.on ?_)
    refine .reg (.mv rfl <| .asg rfl <| .asg rfl <| .asg rfl <| .nil) rfl ?_
    cases h
    refine .retG (fun _ _ hb => hb) rfl (.cons (.tmp rfl) (.cons (.tmp rfl) (.cons (.tmp rfl) .nil))) (.refl _) trivial trivial
def m_s_Cut (a1 : List UInt8) (a2 : List UInt8) : Option ((List UInt8) × (List UInt8) × Bool) := (m_sl_Cut a1 a2).bind fun (v3, v4, v5) => some (v3, v4, v5)
theorem C_s_Cut {a1 : List UInt8} {a2 : List UInt8} {r7 : List UInt8} {r8 : List UInt8} {r9 : Bool} (h : m_s_Cut a1 a2 = some (r7, r8, r9)) : CtrG PP 146 [] [strD a1, strD a2] [] (D.tup [strD r7, strD r8, D.bool r9]) := by
  unfold m_s_Cut at h
  refine .of Go.Proofs.Tryz.func146 rfl (by kernel_rfl) rfl rfl rfl rfl rfl rfl (fun A w0 L b => ?_)
  show Ok PP _ [(0, strD a1), (1, strD a2)] [] _ _
  refine .reg (.asg rfl <| .asg rfl <| .asg rfl <| .nil) rfl ?_
  obtain ⟨⟨v3, v4, v5⟩, e6, h⟩ := bind_some h
  refine .reg (.mv rfl <| .mv rfl <| .callG (C_sl_Cut e6) ⟨rfl, rfl, trivial⟩ trivial trivial <| .ext rfl rfl <| .ext rfl rfl <| .ext rfl rfl <| .asg rfl <| .asg rfl <| .asg rfl <| .nil) rfl ?_
  cases h
  refine .retG (fun _ _ hb => hb) rfl (.cons (.tmp rfl) (.cons (.tmp rfl) (.cons (.tmp rfl) .nil))) (.refl _) trivial trivial
def m_digits (a1 : List UInt8) : Option Bool := (if (!(a1 == ([] : List UInt8))) = true then (x_trim a1 ([48, 49, 50, 51, 52, 53, 54, 55, 56, 57] : List UInt8)).bind fun v3 => some (v3 == ([] : List UInt8)) else some false)
theorem C_digits {a1 : List UInt8} {r5 : Bool} (h : m_digits a1 = some r5) : CtrG PP 149 [] [strD a1] [] (D.bool r5) := by
  unfold m_digits at h
  refine .of Go.Proofs.Tryz.func149 rfl (by kernel_rfl) rfl rfl rfl rfl rfl rfl (fun A w0 L b => ?_)
  show Ok PP _ [(0, strD a1)] [] _ _
  refine .reg (.asg rfl <| .nil) rfl ?_
  by_cases c2 : (!(a1 == ([] : List UInt8))) = true
  · replace h := ite_pos_some c2 h
    obtain ⟨v3, e4, h⟩ := bind_some h
    refine .reg (.mv rfl <| .tne rfl rfl <| .mv rfl <| .gYt rfl rfl rfl c2 <| .mv rfl <| .gYt rfl rfl rfl c2 <| .callG (S_trim e4) ⟨rfl, rfl, trivial⟩ trivial trivial <| .gYt rfl rfl rfl c2 <| .teq rfl rfl <| .pkTb rfl c2 rfl <| .asg rfl <| .nil) rfl ?_
    cases h
    refine .retG (fun _ _ hb => hb) rfl (.cons (.tmp rfl) .nil) (.refl _) trivial trivial
  · replace h := ite_neg_some c2 h
    refine .reg (.mv rfl <| .tne rfl rfl <| .mv rfl <| .gNt rfl rfl rfl c2 <| .gNt rfl rfl rfl c2 <| .gNt rfl rfl rfl c2 <| .pkFb rfl c2 rfl <| .asg rfl <| .nil) rfl ?_
    cases h
    refine .retG (fun _ _ hb => hb) rfl (.cons (.tmp rfl) .nil) (.refl _) trivial trivial
def m_isInt (a1 : List UInt8) : Option Bool := (m_digits a1).bind fun v2 => (if v2 = true then (if (a1 == ([48] : List UInt8)) = true then some true else (ix a1 0).bind fun v6 => some ((v6.toNat : Int) != 48)) else some false)
theorem C_isInt {a1 : List UInt8} {r8 : Bool} (h : m_isInt a1 = some r8) : CtrG PP 147 [] [strD a1] [] (D.bool r8) := by
  unfold m_isInt at h
  refine .of Go.Proofs.Tryz.func147 rfl (by kernel_rfl) rfl rfl rfl rfl rfl rfl (fun A w0 L b => ?_)
  show Ok PP _ [(0, strD a1)] [] _ _
  refine .reg (.asg rfl <| .nil) rfl ?_
  obtain ⟨v2, e3, h⟩ := bind_some h
  by_cases c4 : v2 = true
  · replace h := ite_pos_some c4 h
    by_cases c5 : (a1 == ([48] : List UInt8)) = true
    · replace h := ite_pos_some c5 h
      refine .reg (.mv rfl <| .callG (C_digits e3) ⟨rfl, trivial⟩ trivial trivial <| .mv rfl <| .gYt rfl rfl rfl c4 <| .mv rfl <| .gYt rfl rfl rfl c4 <| .teq rfl rfl <| .gYt rfl rfl rfl c4 <| .mv rfl <| .gNf rfl rfl rfl c5 <| .gNf rfl rfl rfl c5 <| .gNf rfl rfl rfl c5 <| .gYt rfl rfl rfl c4 <| .pkTb rfl c5 rfl <| .pkTb rfl c4 rfl <| .asg rfl <| .nil) rfl ?_
      cases h
      refine .retG (fun _ _ hb => hb) rfl (.cons (.tmp rfl) .nil) (.refl _) trivial trivial
    · replace h := ite_neg_some c5 h
      obtain ⟨v6, e7, h⟩ := bind_some h
      refine .reg (.mv rfl <| .callG (C_digits e3) ⟨rfl, trivial⟩ trivial trivial <| .mv rfl <| .gYt rfl rfl rfl c4 <| .mv rfl <| .gYt rfl rfl rfl c4 <| .teq rfl rfl <| .gYt rfl rfl rfl c4 <| .mv rfl <| .gYf rfl rfl rfl c5 <| .mv rfl <| .gYf rfl rfl rfl c5 <| .tix rfl rfl is_string (ix_some e7).1 (ix_some e7).2 <| .gYf rfl rfl rfl c5 <| .cm rfl rfl rfl <| .gYt rfl rfl rfl c4 <| .pkFb rfl c5 rfl <| .pkTb rfl c4 rfl <| .asg rfl <| .nil) rfl ?_
      cases h
      refine .retG (fun _ _ hb => hb) rfl (.cons (.tmp rfl) .nil) (.refl _) trivial trivial
  · replace h := ite_neg_some c4 h
    refine .reg (.mv rfl <| .callG (C_digits e3) ⟨rfl, trivial⟩ trivial trivial <| .mv rfl <| .gNt rfl rfl rfl c4 <| .gNt rfl rfl rfl c4 <| .gNt rfl rfl rfl c4 <| .gU rfl rfl <| .gU rfl rfl <| .gU rfl rfl <| .gNt rfl rfl rfl c4 <| .pkFb rfl c4 rfl <| .asg rfl <| .nil) rfl ?_
    cases h
    refine .retG (fun _ _ hb => hb) rfl (.cons (.tmp rfl) .nil) (.refl _) trivial trivial
def m_Parse_l1 (v27 : List UInt8) (v42 : Nat) (v43 : Int) : Option (St (Nat × Int) Nat) := (if (decide (v43 < (v27.length : Int))) = true then (n_of 10).bind fun v49 => (n_mul v42 v49).bind fun v51 => some (St.next (v51, (IntKind.i64.wrap (v43 + 1)))) else some (St.done v42))
def m_Parse (a1 : List UInt8) : Option (((Bool × Nat) × Nat) × Int) := (if (decide ((a1.length : Int) > 1000)) = true then some (((false, 0), 0), 5) else (m_s_CutPrefix a1 ([45] : List UInt8)).bind fun (v3, v4) => (n_of 1).bind fun v6 => ((m_s_Cut v3 ([47] : List UInt8)).bind fun (v10, v11, v12) => (if v12 = true then (m_isInt v10).bind fun v15 => (if (!v15) = true then some (Ex.ret (((false, 0), 0), 4)) else (m_isInt v11).bind fun v18 => (if (!v18) = true then some (Ex.ret (((false, 0), 0), 4)) else (n_text v10).bind fun v21 => (n_text v11).bind fun v23 => (if (((digs v23).length : Int) == 0) = true then some (Ex.ret (((false, 0), 0), 9)) else some (Ex.brk (v21, v23))))) else (m_s_Cut v3 ([46] : List UInt8)).bind fun (v26, v27, v28) => ((m_isInt v26).bind fun v32 => (if (!v32) = true then some (Ex.ret (((false, 0), 0), 4)) else (if v28 = true then (m_digits v27).bind fun v36 => (if (!v36) = true then some (Ex.ret (((false, 0), 0), 4)) else some (Ex.brk ())) else some (Ex.brk ())))).bind fun o30 => (match o30 with | Ex.brk () => must (v26.length + v27.length ≤ 9223372036854775807) ((n_text (v26 ++ v27)).bind fun v40 => (Loop (fun (s : Nat × Int) => m_Parse_l1 v27 s.1 s.2) (v6, 0)).bind fun v53 => some (Ex.brk (v40, v53))) | Ex.ret (((r54, r55), r56), r57) => some (Ex.ret (((r54, r55), r56), r57))))).bind fun o8 => (match o8 with | Ex.brk (v58, v59) => (m_wholeOf v4 v58).bind fun (v60, v61) => (m_quotient v60 v61 v59).bind fun ((v63, v64), v65) => some (((v63, v64), v65), 0) | Ex.ret (((r67, r68), r69), r70) => some (((r67, r68), r69), r70)))
theorem C_Parse {a1 : List UInt8} {r71 : Bool} {r72 : Nat} {r73 : Nat} {r74 : Int} (h : m_Parse a1 = some (((r71, r72), r73), r74)) : CtrG PP 23 [] [strD a1] [] (D.tup [D.agg ([D.bool r71, natD r72, natD r73]), D.int .i64 r74]) := by
  unfold m_Parse at h
  refine .of Go.Proofs.Tryz.func23 rfl (by kernel_rfl) rfl rfl rfl rfl rfl rfl (fun A w0 L b => ?_)
  show Ok PP _ [(0, strD a1)] [] _ _
  refine .reg (.alL ([D.bool false, natD 0, natD 0]) z_exact_Q ⟨.refl _, nil_nat, nil_nat, trivial⟩ rfl <| .asg rfl <| .nil) rfl ?_
  refine .sq ?_
  refine .reg (.mv rfl <| .tlen rfl is_string <| .cm rfl rfl rfl <| .nil) rfl ?_
  by_cases c2 : (decide ((a1.length : Int) > 1000)) = true
  · replace h := ite_pos_some c2 h
    refine .cTb rfl c2 ?_
    refine .reg (.bdQ ([D.bool false, natD 0, natD 0]) [] z_exact_Q pl_exact_Q trivial trivial ⟨.refl _, nil_nat, nil_nat, trivial⟩ <| .stE ([D.bool false, natD 0, natD 0]) rfl rfl rfl ly_exact_Q rfl rfl rfl <| .asg rfl <| .nil) rfl ?_
    cases h
    refine .retG (fun _ _ hb => hb) rfl (.cons (.agg rfl rfl ly_exact_Q rfl) (.cons (.tmp rfl) .nil)) (.refl _) trivial trivial
  · replace h := ite_neg_some c2 h
    refine .cFb rfl c2 ?_
    refine .skip (Ok.on ?_)
    obtain ⟨⟨v3, v4⟩, e5, h⟩ := bind_some h
    refine .reg (.mv rfl <| .callG (C_s_CutPrefix e5) ⟨rfl, rfl, trivial⟩ trivial trivial <| .mv rfl <| .ext rfl rfl <| .ext rfl rfl <| .asg rfl <| .asg rfl <| .nil) rfl ?_
    obtain ⟨v6, e7, h⟩ := bind_some h
    refine .reg (.callG (N_of e7) ⟨rfl, trivial⟩ trivial trivial <| .asg rfl <| .asg rfl <| .nil) rfl ?_
    obtain ⟨o8, hp9, h⟩ := bind_some h
    refine .cutX (fun i => o8 = Ex.brk i) (fun (i : Nat × Nat) => [(2, D.ref 2 0), (4, D.bool v4), (5, natD i.1), (6, natD i.2)]) (fun (i : Nat × Nat) => [(2, Hp.box 28 ([D.bool false, natD 0, natD 0]))]) ?_ ?_
    · have ho1 := h
      clear h
      have h := hp9
      clear hp9
      obtain ⟨⟨v10, v11, v12⟩, e13, h⟩ := bind_some h
      refine .reg (.mv rfl <| .callG (C_s_Cut e13) ⟨rfl, rfl, trivial⟩ trivial trivial <| .mv rfl <| .ext rfl rfl <| .ext rfl rfl <| .ext rfl rfl <| .asg rfl <| .asg rfl <| .asg rfl <| .nil) rfl ?_
      refine .reg (.mv rfl <| .nil) rfl ?_
      by_cases c14 : v12 = true
      · replace h := ite_pos_some c14 h
        refine .cTb rfl c14 ?_
        refine .sq ?_
        obtain ⟨v15, e16, h⟩ := bind_some h
        by_cases c17 : (!v15) = true
        · replace h := ite_pos_some c17 h
          refine .reg (.mv rfl <| .callG (C_isInt e16) ⟨rfl, trivial⟩ trivial trivial <| .not rfl <| .mv rfl <| .gNf rfl rfl rfl c17 <| .gNf rfl rfl rfl c17 <| .gNf rfl rfl rfl c17 <| .pkTb rfl c17 rfl <| .nil) rfl ?_
          refine .cTb rfl rfl ?_
          refine .reg (.bdQ ([D.bool false, natD 0, natD 0]) [] z_exact_Q pl_exact_Q trivial trivial ⟨.refl _, nil_nat, nil_nat, trivial⟩ <| .stE ([D.bool false, natD 0, natD 0]) rfl rfl rfl ly_exact_Q rfl rfl rfl <| .asg rfl <| .nil) rfl ?_
          cases h
          have h := ho1
          clear ho1
          cases h
          refine .retG (fun _ _ hb => hb) rfl (.cons (.agg rfl rfl ly_exact_Q rfl) (.cons (.tmp rfl) .nil)) (.refl _) trivial trivial
        · replace h := ite_neg_some c17 h
          obtain ⟨v18, e19, h⟩ := bind_some h
          refine .reg (.mv rfl <| .callG (C_isInt e16) ⟨rfl, trivial⟩ trivial trivial <| .not rfl <| .mv rfl <| .gYf rfl rfl rfl c17 <| .mv rfl <| .gYf rfl rfl rfl c17 <| .callG (C_isInt e19) ⟨rfl, trivial⟩ trivial trivial <| .gYf rfl rfl rfl c17 <| .not rfl <| .pkFb rfl c17 rfl <| .nil) rfl ?_
          by_cases c20 : (!v18) = true
          · replace h := ite_pos_some c20 h
            refine .cTb rfl c20 ?_
            refine .reg (.bdQ ([D.bool false, natD 0, natD 0]) [] z_exact_Q pl_exact_Q trivial trivial ⟨.refl _, nil_nat, nil_nat, trivial⟩ <| .stE ([D.bool false, natD 0, natD 0]) rfl rfl rfl ly_exact_Q rfl rfl rfl <| .asg rfl <| .nil) rfl ?_
            cases h
            have h := ho1
            clear ho1
            cases h
            refine .retG (fun _ _ hb => hb) rfl (.cons (.agg rfl rfl ly_exact_Q rfl) (.cons (.tmp rfl) .nil)) (.refl _) trivial trivial
          · replace h := ite_neg_some c20 h
            refine .cFb rfl c20 ?_
            refine .skip (Ok.on ?_)
            obtain ⟨v21, e22, h⟩ := bind_some h
            obtain ⟨v23, e24, h⟩ := bind_some h
            refine .reg (.mv rfl <| .callG (N_text e22) ⟨rfl, trivial⟩ trivial trivial <| .mv rfl <| .callG (N_text e24) ⟨rfl, trivial⟩ trivial trivial <| .asg rfl <| .asg rfl <| .nil) rfl ?_
            refine .reg (.mv rfl <| .lnD rfl is_exact_nat <| .cm rfl rfl rfl <| .nil) rfl ?_
            by_cases c25 : (((digs v23).length : Int) == 0) = true
            · replace h := ite_pos_some c25 h
              refine .cTb rfl c25 ?_
              refine .reg (.bdQ ([D.bool false, natD 0, natD 0]) [] z_exact_Q pl_exact_Q trivial trivial ⟨.refl _, nil_nat, nil_nat, trivial⟩ <| .stE ([D.bool false, natD 0, natD 0]) rfl rfl rfl ly_exact_Q rfl rfl rfl <| .asg rfl <| .nil) rfl ?_
              cases h
              have h := ho1
              clear ho1
              cases h
              refine .retG (fun _ _ hb => hb) rfl (.cons (.agg rfl rfl ly_exact_Q rfl) (.cons (.tmp rfl) .nil)) (.refl _) trivial trivial
            · replace h := ite_neg_some c25 h
              refine .cFb rfl c25 ?_
              refine .skip (fun _ _ hs => ⟨(v21, v23), (Option.some.inj h).symm, hs.sub ⟨⟨_, rfl, .refl _⟩, ⟨_, rfl, .refl _⟩, ⟨_, rfl, .refl _⟩, ⟨_, rfl, .refl _⟩, trivial⟩ ⟨⟨_, rfl, .refl _⟩, trivial⟩ rfl rfl⟩)
      · replace h := ite_neg_some c14 h
        refine .cFb rfl c14 ?_
        obtain ⟨⟨v26, v27, v28⟩, e29, h⟩ := bind_some h
        refine .reg (.mv rfl <| .callG (C_s_Cut e29) ⟨rfl, rfl, trivial⟩ trivial trivial <| .mv rfl <| .ext rfl rfl <| .ext rfl rfl <| .ext rfl rfl <| .asg rfl <| .asg rfl <| .asg rfl <| .nil) rfl ?_
        obtain ⟨o30, hp31, h⟩ := bind_some h
        refine .cutX (fun i => o30 = Ex.brk i) (fun (i : Unit) => [(2, D.ref 2 0), (4, D.bool v4), (6, natD v6), (10, strD v26), (11, strD v27)]) (fun (i : Unit) => [(2, Hp.box 28 ([D.bool false, natD 0, natD 0]))]) ?_ ?_
        · have ho2 := h
          clear h
          have h := hp31
          clear hp31
          obtain ⟨v32, e33, h⟩ := bind_some h
          by_cases c34 : (!v32) = true
          · replace h := ite_pos_some c34 h
            refine .reg (.mv rfl <| .callG (C_isInt e33) ⟨rfl, trivial⟩ trivial trivial <| .not rfl <| .mv rfl <| .gNf rfl rfl rfl c34 <| .gNf rfl rfl rfl c34 <| .gU rfl rfl <| .gU rfl rfl <| .gU rfl rfl <| .gNf rfl rfl rfl c34 <| .pkTb rfl c34 rfl <| .nil) rfl ?_
            refine .cTb rfl rfl ?_
            refine .reg (.bdQ ([D.bool false, natD 0, natD 0]) [] z_exact_Q pl_exact_Q trivial trivial ⟨.refl _, nil_nat, nil_nat, trivial⟩ <| .stE ([D.bool false, natD 0, natD 0]) rfl rfl rfl ly_exact_Q rfl rfl rfl <| .asg rfl <| .nil) rfl ?_
            cases h
            have h := ho2
            clear ho2
            cases h
            have h := ho1
            clear ho1
            cases h
            refine .retG (fun _ _ hb => hb) rfl (.cons (.agg rfl rfl ly_exact_Q rfl) (.cons (.tmp rfl) .nil)) (.refl _) trivial trivial
          · replace h := ite_neg_some c34 h
            by_cases c35 : v28 = true
            · replace h := ite_pos_some c35 h
              obtain ⟨v36, e37, h⟩ := bind_some h
              refine .reg (.mv rfl <| .callG (C_isInt e33) ⟨rfl, trivial⟩ trivial trivial <| .not rfl <| .mv rfl <| .gYf rfl rfl rfl c34 <| .mv rfl <| .gYf rfl rfl rfl c34 <| .mv rfl <| .gYt rfl rfl rfl c35 <| .mv rfl <| .gYt rfl rfl rfl c35 <| .callG (C_digits e37) ⟨rfl, trivial⟩ trivial trivial <| .gYt rfl rfl rfl c35 <| .not rfl <| .gYf rfl rfl rfl c34 <| .pkTb rfl c35 rfl <| .pkFb rfl c34 rfl <| .nil) rfl ?_
              by_cases c38 : (!v36) = true
              · replace h := ite_pos_some c38 h
                refine .cTb rfl c38 ?_
                refine .reg (.bdQ ([D.bool false, natD 0, natD 0]) [] z_exact_Q pl_exact_Q trivial trivial ⟨.refl _, nil_nat, nil_nat, trivial⟩ <| .stE ([D.bool false, natD 0, natD 0]) rfl rfl rfl ly_exact_Q rfl rfl rfl <| .asg rfl <| .nil) rfl ?_
                cases h
                have h := ho2
                clear ho2
                cases h
                have h := ho1
                clear ho1
                cases h
                refine .retG (fun _ _ hb => hb) rfl (.cons (.agg rfl rfl ly_exact_Q rfl) (.cons (.tmp rfl) .nil)) (.refl _) trivial trivial
              · replace h := ite_neg_some c38 h
                refine .cFb rfl c38 ?_
                refine .skip (fun _ _ hs => ⟨(), (Option.some.inj h).symm, hs.sub ⟨⟨_, rfl, .refl _⟩, ⟨_, rfl, .refl _⟩, ⟨_, rfl, .refl _⟩, ⟨_, rfl, .refl _⟩, ⟨_, rfl, .refl _⟩, trivial⟩ ⟨⟨_, rfl, .refl _⟩, trivial⟩ rfl rfl⟩)
            · replace h := ite_neg_some c35 h
              refine .reg (.mv rfl <| .callG (C_isInt e33) ⟨rfl, trivial⟩ trivial trivial <| .not rfl <| .mv rfl <| .gYf rfl rfl rfl c34 <| .mv rfl <| .gYf rfl rfl rfl c34 <| .mv rfl <| .gNt rfl rfl rfl c35 <| .gNt rfl rfl rfl c35 <| .gNt rfl rfl rfl c35 <| .gYf rfl rfl rfl c34 <| .pkFb rfl c35 rfl <| .pkFb rfl c34 rfl <| .nil) rfl ?_
              refine .cFb rfl (by decide) ?_
              refine .skip (fun _ _ hs => ⟨(), (Option.some.inj h).symm, hs.sub ⟨⟨_, rfl, .refl _⟩, ⟨_, rfl, .refl _⟩, ⟨_, rfl, .refl _⟩, ⟨_, rfl, .refl _⟩, ⟨_, rfl, .refl _⟩, trivial⟩ ⟨⟨_, rfl, .refl _⟩, trivial⟩ rfl rfl⟩)
        · rintro ⟨⟩ rfl
          show Ok PP _ [(2, D.ref 2 0), (4, D.bool v4), (6, natD v6), (10, strD v26), (11, strD v27)] [(2, Hp.box 28 ([D.bool false, natD 0, natD 0]))] _ _
          obtain ⟨k39, h⟩ := must_some h
          obtain ⟨v40, e41, h⟩ := bind_some h
          refine .reg (.mv rfl <| .mv rfl <| .tcat rfl rfl k39 <| .callG (N_text e41) ⟨rfl, trivial⟩ trivial trivial <| .asg rfl <| .nil) rfl ?_
          refine .reg (.mv rfl <| .tlen rfl is_string <| .mv rfl <| .nil) rfl ?_
          obtain ⟨o44, hl45, h⟩ := bind_some h
          have ho2 := h
          clear h
          refine .block (.loopL (fun (s : Nat × Int) => [(2, D.ref 2 0), (4, D.bool v4), (5, natD v40), (6, natD s.1), (70, D.int .i64 (v27.length : Int)), (71, D.int .i64 s.2)]) (fun (s : Nat × Int) => [(2, Hp.box 28 ([D.bool false, natD 0, natD 0]))]) hl45 ⟨⟨_, rfl, .refl _⟩, ⟨_, rfl, .refl _⟩, ⟨_, rfl, .refl _⟩, ⟨_, rfl, .refl _⟩, ⟨_, rfl, .refl _⟩, ⟨_, rfl, .refl _⟩, trivial⟩ ⟨⟨_, rfl, .refl _⟩, trivial⟩ rfl rfl ?_)
          rintro ⟨v42, v43⟩ st46 hb47
          have h : m_Parse_l1 v27 v42 v43 = some st46 := hb47
          clear hb47
          unfold m_Parse_l1 at h
          show Ok PP _ [(2, D.ref 2 0), (4, D.bool v4), (5, natD v40), (6, natD v42), (70, D.int .i64 (v27.length : Int)), (71, D.int .i64 v43)] [(2, Hp.box 28 ([D.bool false, natD 0, natD 0]))] _ _
          refine .reg (.cm rfl rfl rfl <| .nil) rfl ?_
          refine .sq ?_
          by_cases c48 : (decide (v43 < (v27.length : Int))) = true
          · replace h := ite_pos_some c48 h
            refine .cTb rfl c48 ?_
            refine .skip (Ok.on ?_)
            refine .sq ?_
            refine .block ?_
            obtain ⟨v49, e50, h⟩ := bind_some h
            obtain ⟨v51, e52, h⟩ := bind_some h
            refine .region (.mv rfl <| .callG (N_of e50) ⟨rfl, trivial⟩ trivial trivial <| .callG (N_mul e52) ⟨rfl, rfl, trivial⟩ trivial trivial <| .asg rfl <| .nil) rfl (Ok.on ?_)
            refine .region (.ar rfl rfl rfl <| .mv rfl <| .nil) rfl (fun _ _ hs => ⟨(v51, (IntKind.i64.wrap (v43 + 1))), (Option.some.inj h).symm, hs.sub ⟨⟨_, rfl, .refl _⟩, ⟨_, rfl, .refl _⟩, ⟨_, rfl, .refl _⟩, ⟨_, rfl, .refl _⟩, ⟨_, rfl, .refl _⟩, ⟨_, rfl, .refl _⟩, trivial⟩ ⟨⟨_, rfl, .refl _⟩, trivial⟩ rfl rfl⟩)
          · replace h := ite_neg_some c48 h
            refine .cFb rfl c48 ?_
            refine .exit (fun a w hs => ⟨_, (Option.some.inj h).symm, fun e => by subst e; have h := ho2; exact blk_exit (⟨(v40, v42), (Option.some.inj h).symm, hs.sub ⟨⟨_, rfl, .refl _⟩, ⟨_, rfl, .refl _⟩, ⟨_, rfl, .refl _⟩, ⟨_, rfl, .refl _⟩, trivial⟩ ⟨⟨_, rfl, .refl _⟩, trivial⟩ rfl rfl⟩)⟩)
    · rintro ⟨v58, v59⟩ rfl
      show Ok PP _ [(2, D.ref 2 0), (4, D.bool v4), (5, natD v58), (6, natD v59)] [(2, Hp.box 28 ([D.bool false, natD 0, natD 0]))] _ _
      obtain ⟨⟨v60, v61⟩, e62, h⟩ := bind_some h
      obtain ⟨⟨⟨v63, v64⟩, v65⟩, e66, h⟩ := bind_some h
      refine .reg (.mv rfl <| .mv rfl <| .callG (C_wholeOf e62) ⟨rfl, rfl, trivial⟩ trivial trivial <| .mv rfl <| .callG (C_quotient e66) ⟨rfl, rfl, trivial⟩ trivial trivial <| .stE ([D.bool v63, natD v64, natD v65]) rfl rfl rfl ly_exact_Q rfl rfl rfl <| .asg rfl <| .nil) rfl ?_
      cases h
      refine .retG (fun _ _ hb => hb) rfl (.cons (.agg rfl rfl ly_exact_Q rfl) (.cons (.tmp rfl) .nil)) (.refl _) trivial trivial
end
end Go.Am
namespace Go.Am
open Go.RowKit
def dig (s : List UInt8) : Bool := !s.isEmpty && s.all fun b => decide (48 ≤ b.toNat) && decide (b.toNat ≤ 57)
def intT (s : List UInt8) : Bool := dig s && (s == [48] || !(s.head? == some 48))
def cutB (c : UInt8) : List UInt8 → List UInt8 × List UInt8 × Bool
  | [] => ([], [], false)
  | b :: l => if b = c then ([], l, true) else (b :: (cutB c l).1, (cutB c l).2.1, (cutB c l).2.2)
theorem dig_decs {s : List UInt8} (h : dig s = true) : decs s ∧ s ≠ [] := by
  unfold dig at h
  rw [Bool.and_eq_true] at h
  refine ⟨fun b hb => ?_, fun e => by rw [e] at h; simp at h⟩
  have := List.all_eq_true.1 h.2 b hb
  simp only [Bool.and_eq_true, decide_eq_true_eq] at this
  exact this
theorem cutB_len (c : UInt8) : ∀ l, (cutB c l).1.length + (cutB c l).2.1.length ≤ l.length
  | [] => Nat.le_refl _
  | b :: l => by
    have := cutB_len c l
    unfold cutB
    split
    · simp only [List.length_nil, List.length_cons]; omega
    · simp only [List.length_cons]; omega
theorem cutB_not (c : UInt8) : ∀ l, (cutB c l).2.2 = false → cutB c l = (l, [], false)
  | [], _ => rfl
  | b :: l, h => by
    unfold cutB at h ⊢
    by_cases e : b = c
    · rw [if_pos e] at h; cases h
    · rw [if_neg e] at h ⊢
      rw [cutB_not c l h]
theorem dropWhile_nil {α : Type} (p : α → Bool) : ∀ (l : List α), l.dropWhile p = [] ↔ ∀ x ∈ l, p x = true
  | [] => by simp
  | a :: l => by
    by_cases h : p a = true
    · rw [List.dropWhile_cons_of_pos h, dropWhile_nil p l]; simp [h]
    · rw [List.dropWhile_cons_of_neg h]; simp [h]
theorem dropWhile_head {α : Type} (p : α → Bool) : ∀ (l : List α) (x : α) (m : List α), l.dropWhile p = x :: m → ¬ p x = true
  | [], x, m, h => by cases h
  | a :: l, x, m, h => by
    by_cases hp : p a = true
    · rw [List.dropWhile_cons_of_pos hp] at h; exact dropWhile_head p l x m h
    · rw [List.dropWhile_cons_of_neg hp] at h; injection h with h1 h2; subst h1; exact hp
theorem trimS_nil (l cs : List UInt8) : Lib.trimS l cs = [] ↔ ∀ b ∈ l, cs.contains b = true := by
  unfold Lib.trimS Lib.trimLeftS Lib.trimRightS
  rw [dropWhile_nil]
  have hr := dropWhile_nil (cs.contains ·) l.reverse
  constructor
  · intro h
    cases e : l.reverse.dropWhile (cs.contains ·) with
    | nil =>
      rw [e] at hr
      intro b hb
      exact hr.1 rfl b (List.mem_reverse.2 hb)
    | cons x m =>
      exfalso
      refine dropWhile_head _ _ _ _ e (h x ?_)
      rw [e]; simp
  · intro h
    have : l.reverse.dropWhile (cs.contains ·) = [] := hr.2 fun b hb => h b (List.mem_reverse.1 hb)
    rw [this]; simp
theorem digit_in (b : UInt8) : ([48, 49, 50, 51, 52, 53, 54, 55, 56, 57] : List UInt8).contains b = (decide (48 ≤ b.toNat) && decide (b.toNat ≤ 57)) := by
  have key : ∀ n : Nat, n < 256 → ([48, 49, 50, 51, 52, 53, 54, 55, 56, 57] : List UInt8).contains (UInt8.ofNat n) = (decide (48 ≤ n) && decide (n ≤ 57)) := by decide +kernel
  have := key b.toNat b.toNat_lt
  rw [UInt8.ofNat_toNat] at this
  exact this
theorem digits_is (s : List UInt8) (hl : s.length ≤ 1000000) : m_digits s = some (dig s) := by
  unfold m_digits dig
  cases s with
  | nil => rfl
  | cons a t =>
    have h1 : (!((a :: t) == ([] : List UInt8))) = true := rfl
    rw [if_pos h1]
    have h2 : x_trim (a :: t) ([48, 49, 50, 51, 52, 53, 54, 55, 56, 57] : List UInt8) = some (Lib.trimS (a :: t) [48, 49, 50, 51, 52, 53, 54, 55, 56, 57]) := must_of ⟨by omega, by decide, by decide⟩ rfl
    rw [h2, Option.bind_some]
    congr 1
    have h3 := trimS_nil (a :: t) [48, 49, 50, 51, 52, 53, 54, 55, 56, 57]
    simp only [digit_in] at h3
    have h4 : (!(a :: t).isEmpty) = true := rfl
    rw [h4, Bool.true_and]
    by_cases e : Lib.trimS (a :: t) [48, 49, 50, 51, 52, 53, 54, 55, 56, 57] = []
    · rw [e, List.all_eq_true.2 (h3.1 e)]; rfl
    · have h5 : ((a :: t).all fun b => decide (48 ≤ b.toNat) && decide (b.toNat ≤ 57)) = false := by
        apply Bool.eq_false_iff.2
        intro h; exact e (h3.2 (List.all_eq_true.1 h))
      rw [h5, beq_eq_false_iff_ne]; exact e
theorem isInt_is (s : List UInt8) (hl : s.length ≤ 1000000) : m_isInt s = some (intT s) := by
  unfold m_isInt intT
  rw [digits_is s hl, Option.bind_some]
  by_cases hd : dig s = true
  · rw [if_pos hd, hd, Bool.true_and]
    by_cases h0 : (s == ([48] : List UInt8)) = true
    · rw [if_pos h0, h0]; rfl
    · rw [if_neg h0]
      have h0' : (s == ([48] : List UInt8)) = false := by simpa using h0
      rw [h0', Bool.false_or]
      obtain ⟨_, hne⟩ := dig_decs hd
      cases s with
      | nil => exact absurd rfl hne
      | cons a t =>
        have : ix (a :: t) 0 = some a := rfl
        rw [this, Option.bind_some, List.head?_cons]
        congr 1
        by_cases e : a = 48
        · subst e; rfl
        · have h1 : ((a.toNat : Int) != 48) = true := by
            rw [bne_iff_ne]
            intro h
            apply e
            apply UInt8.toNat_inj.1
            rw [show (48 : UInt8).toNat = 48 from rfl]; omega
          have h2 : ((some a == some (48 : UInt8))) = false := by
            rw [beq_eq_false_iff_ne]; intro h; injection h with h; exact e h
          rw [h1, h2]; rfl
  · rw [if_neg hd]
    have : dig s = false := by simpa using hd
    rw [this]; rfl
theorem cut_idx (c : UInt8) : ∀ l, (cutB c l = if Lib.indexByte l c = -1 then (l, [], false) else (l.take (Lib.indexByte l c).toNat, l.drop ((Lib.indexByte l c).toNat + 1), true)) ∧ -1 ≤ Lib.indexByte l c ∧ Lib.indexByte l c < (l.length : Int)
  | [] => by simp [cutB, Lib.indexByte]
  | b :: l => by
    obtain ⟨h1, h2, h3⟩ := cut_idx c l
    have hv : Lib.indexByte (b :: l) c = if b == c then 0 else if Lib.indexByte l c == -1 then -1 else Lib.indexByte l c + 1 := rfl
    rw [hv]
    unfold cutB
    by_cases e : b = c
    · have e' : (b == c) = true := by simpa using e
      rw [if_pos e, if_pos e']
      refine ⟨?_, by omega, by simp only [List.length_cons]; omega⟩
      rw [if_neg (by decide)]; rfl
    · have e' : ¬ (b == c) = true := by simpa using e
      rw [if_neg e, if_neg e', h1]
      by_cases h0 : Lib.indexByte l c = -1
      · have h0' : (Lib.indexByte l c == -1) = true := by simpa using h0
        rw [if_pos h0', if_pos h0, if_pos rfl]
        exact ⟨rfl, by omega, by simp only [List.length_cons]; omega⟩
      · have h0' : ¬ (Lib.indexByte l c == -1) = true := by simpa using h0
        rw [if_neg h0', if_neg h0, if_neg (by omega)]
        have h4 : (Lib.indexByte l c + 1).toNat = (Lib.indexByte l c).toNat + 1 := by omega
        refine ⟨?_, by omega, by simp only [List.length_cons]; omega⟩
        rw [h4]; rfl
theorem Cut_is (s : List UInt8) (c : UInt8) (hl : s.length ≤ 1000000) : m_s_Cut s [c] = some (cutB c s) := by
  obtain ⟨h1, h2, h3⟩ := cut_idx c s
  unfold m_s_Cut m_sl_Cut
  have hx : x_index s [c] = some (Lib.indexByte s c) := must_of rfl rfl
  rw [hx, h1]
  simp only [Option.bind_some]
  by_cases h0 : Lib.indexByte s c = -1
  · rw [if_neg (by rw [h0]; decide), if_pos h0]; rfl
  · rw [if_pos (decide_eq_true (by omega)), if_neg h0]
    have e : IntKind.i64.wrap (Lib.indexByte s c + (([c] : List UInt8).length : Int)) = Lib.indexByte s c + 1 := i64_in (by simp only [List.length_cons, List.length_nil]; omega)
    rw [e, must_eq (by omega), must_eq (by omega)]
    have h4 : (Lib.indexByte s c + 1).toNat = (Lib.indexByte s c).toNat + 1 := by omega
    rw [h4]; rfl
theorem CutMinus_is (s : List UInt8) (hl : s.length ≤ 1000000) : m_s_CutPrefix s [45] = some (if s.head? = some 45 then (s.drop 1, true) else (s, false)) := by
  unfold m_s_CutPrefix m_sl_CutPrefix m_sl_HasPrefix
  cases s with
  | nil => rfl
  | cons a t =>
    rw [if_pos (decide_eq_true (by simp only [List.length_cons, List.length_nil]; omega)), must_eq (by simp only [List.length_cons, List.length_nil]; omega)]
    simp only [Option.bind_some]
    have h1 : (List.take ((([45] : List UInt8).length : Nat) : Int).toNat (a :: t) == ([45] : List UInt8)) = (a == 45) := by
      show ([a] == [45]) = (a == 45)
      by_cases e : a = 45
      · subst e; rfl
      · have h2 : (a == 45) = false := by simpa using e
        rw [h2, beq_eq_false_iff_ne]; intro h; injection h with h; exact e h
    rw [h1]
    by_cases e : a = 45
    · subst e
      rw [if_neg (by decide), must_eq (by simp only [List.length_cons, List.length_nil]; omega), if_pos (show (45 :: t).head? = some 45 from rfl)]; rfl
    · have h2 : (a == 45) = false := by simpa using e
      have h3 : ¬ (a :: t).head? = some 45 := by intro h; injection h with h; exact e h
      rw [h2, if_neg h3]; rfl
def parseU (neg : Bool) (t : List UInt8) : Rat × Int :=
  if (cutB 47 t).2.2 then
    if !intT (cutB 47 t).1 then (0, 4) else if !intT (cutB 47 t).2.1 then (0, 4) else if decv (cutB 47 t).2.1 = 0 then (0, 9) else (mkRat (sg neg (decv (cutB 47 t).1)) (decv (cutB 47 t).2.1), 0)
  else if !intT (cutB 46 t).1 then (0, 4) else if (cutB 46 t).2.2 && !dig (cutB 46 t).2.1 then (0, 4)
  else (mkRat (sg neg (decv ((cutB 46 t).1 ++ (cutB 46 t).2.1))) (10 ^ (cutB 46 t).2.1.length), 0)
def parseQ (s : List UInt8) : Rat × Int := if 1000 < s.length then (0, 5) else if s.head? = some 45 then parseU true (s.drop 1) else parseU false s
theorem tens_is (a : List UInt8) (hl : a.length ≤ 1000) : Loop (fun (s : Nat × Int) => m_Parse_l1 a s.1 s.2) (1, 0) = some (10 ^ a.length) := by
  have hb : ∀ i, i ≤ 1000 → sm (10 ^ i) := by
    intro i hi
    have h1 : 10 ^ i < 2 ^ (4 * i + 1) := Nat.lt_of_le_of_lt (Nat.pow_le_pow_left (show 10 ≤ 16 by decide) i) (by rw [show (16 : Nat) = 2 ^ 4 from rfl, ← Nat.pow_mul]; exact Nat.pow_lt_pow_right (by decide) (by omega))
    exact sm_of (blen_le_iff.2 h1) (by omega)
  obtain ⟨r, hr, rfl⟩ := Loop_run (body := fun (s : Nat × Int) => m_Parse_l1 a s.1 s.2) (1, 0) (fun s => ∃ i : Nat, i ≤ a.length ∧ s = (10 ^ i, (i : Int))) (fun s => (a.length - s.2).toNat) (fun r => r = 10 ^ a.length) ⟨0, Nat.zero_le _, rfl⟩ (by
    rintro s ⟨i, hi, rfl⟩
    simp only
    unfold m_Parse_l1
    by_cases h : i < a.length
    · left
      have e10 : n_of (10 : Int) = some 10 := n_of_eq (n := 10) (by omega)
      rw [if_pos (decide_eq_true (by omega)), e10, Option.bind_some, n_mul_eq (hb i (by omega)) (sm_small (by decide)), Option.bind_some]
      have e4 : IntKind.i64.wrap ((i : Int) + 1) = ((i + 1 : Nat) : Int) := by rw [i64_in (by omega)]; omega
      rw [e4]
      exact ⟨_, rfl, ⟨i + 1, h, by rw [Nat.pow_succ]⟩, by simp only; omega⟩
    · right
      rw [if_neg (by simp; omega)]
      exact ⟨_, rfl, by rw [show i = a.length from by omega]⟩)
  exact hr
theorem n_text_eq {s : List UInt8} (h : dig s = true) (hl : s.length ≤ 1000) : n_text s = some (decv s) := must_of ⟨by omega, (dig_decs h).1⟩ rfl
theorem decv_sm' {s : List UInt8} (h : dig s = true) (hl : s.length ≤ 2000) : sm (decv s) := sm_of (decv_sm (dig_decs h).1 (by omega)) (by omega)
theorem ten_sm {n : Nat} (h : n ≤ 1000) : sm (10 ^ n) := by
  have h1 : 10 ^ n < 2 ^ (4 * n + 1) := Nat.lt_of_le_of_lt (Nat.pow_le_pow_left (show 10 ≤ 16 by decide) n) (by rw [show (16 : Nat) = 2 ^ 4 from rfl, ← Nat.pow_mul]; exact Nat.pow_lt_pow_right (by decide) (by omega))
  exact sm_of (blen_le_iff.2 h1) (by omega)
theorem intT_dig {s : List UInt8} (h : intT s = true) : dig s = true := by unfold intT at h; rw [Bool.and_eq_true] at h; exact h.1
theorem dig_append {a b : List UInt8} (h : dig a = true) (k : dig b = true) : dig (a ++ b) = true := by
  unfold dig at *
  rw [Bool.and_eq_true] at *
  refine ⟨?_, by rw [List.all_append, h.2, k.2]; rfl⟩
  cases a with
  | nil => simp at h
  | cons x l => rfl
theorem fin_is (neg : Bool) (n d : Nat) (hd : d ≠ 0) (hn : sm n) (hs : sm d) : ((m_wholeOf neg n).bind fun (v60, v61) => (m_quotient v60 v61 d).bind fun ((v63, v64), v65) => some (((v63, v64), v65), (0 : Int))) = some (rp (mkRat (sg neg n) d), 0) := by
  rw [wholeOf_is, Option.bind_some]
  dsimp only
  rw [quotient_is _ _ hd (by rw [sg_abs]; exact hn) hs]; rfl
theorem ParseU_is (neg : Bool) (t : List UInt8) (hl : t.length ≤ 1000) :
    ((m_s_Cut t ([47] : List UInt8)).bind fun (v10, v11, v12) => (if v12 = true then (m_isInt v10).bind fun v15 => (if (!v15) = true then some (Ex.ret (((false, 0), 0), 4)) else (m_isInt v11).bind fun v18 => (if (!v18) = true then some (Ex.ret (((false, 0), 0), 4)) else (n_text v10).bind fun v21 => (n_text v11).bind fun v23 => (if (((digs v23).length : Int) == 0) = true then some (Ex.ret (((false, 0), 0), 9)) else some (Ex.brk (v21, v23))))) else (m_s_Cut t ([46] : List UInt8)).bind fun (v26, v27, v28) => ((m_isInt v26).bind fun v32 => (if (!v32) = true then some (Ex.ret (((false, 0), 0), 4)) else (if v28 = true then (m_digits v27).bind fun v36 => (if (!v36) = true then some (Ex.ret (((false, 0), 0), 4)) else some (Ex.brk ())) else some (Ex.brk ())))).bind fun o30 => (match o30 with | Ex.brk () => must (v26.length + v27.length ≤ 9223372036854775807) ((n_text (v26 ++ v27)).bind fun v40 => (Loop (fun (s : Nat × Int) => m_Parse_l1 v27 s.1 s.2) (1, 0)).bind fun v53 => some (Ex.brk (v40, v53))) | Ex.ret (((r54, r55), r56), r57) => some (Ex.ret (((r54, r55), r56), r57)))) : Option (Ex (Nat × Nat) (((Bool × Nat) × Nat) × Nat))).bind (fun o8 => (match o8 with | Ex.brk (v58, v59) => (m_wholeOf neg v58).bind fun (v60, v61) => (m_quotient v60 v61 v59).bind fun ((v63, v64), v65) => some (((v63, v64), v65), (0 : Int)) | Ex.ret (((r67, r68), r69), r70) => some (((r67, r68), r69), (r70 : Int))))
    = some (rp (parseU neg t).1, (parseU neg t).2) := by
  have c1 := cutB_len 47 t
  have c2 := cutB_len 46 t
  have hn46 := cutB_not 46 t
  rw [Cut_is t 47 (by omega), Cut_is t 46 (by omega)]
  unfold parseU
  generalize cutB 47 t = A at *
  generalize cutB 46 t = B at *
  obtain ⟨b, a, f⟩ := A
  obtain ⟨b', a', f'⟩ := B
  simp only at c1 c2 hn46
  simp only [Option.bind_some]
  cases f
  · simp only [Option.bind_some, Bool.false_eq_true, if_false, if_true, Bool.not_true, Bool.not_false, Bool.false_and, Bool.true_and]
    rw [isInt_is _ (by omega), digits_is _ (by omega)]
    cases h1 : intT b'
    · simp only [Option.bind_some, Bool.false_eq_true, if_false, if_true, Bool.not_true, Bool.not_false, Bool.false_and, Bool.true_and]; rfl
    · have d1 := intT_dig h1
      cases f'
      · have hn := hn46 rfl
        injection hn with e1 hn
        injection hn with e2 _
        subst e1; subst e2
        simp only [Option.bind_some, Bool.false_eq_true, if_false, if_true, Bool.not_true, Bool.not_false, Bool.false_and, Bool.true_and]
        rw [must_eq (by simp only [List.length_nil]; omega), n_text_eq (by rw [List.append_nil]; exact d1) (by rw [List.append_nil]; exact hl), Option.bind_some, tens_is _ (by decide), Option.bind_some, Option.bind_some]
        dsimp only
        have hfin := fin_is neg (decv (b' ++ [])) (10 ^ ([] : List UInt8).length) (by decide) (decv_sm' (by rw [List.append_nil]; exact d1) (by rw [List.append_nil]; omega)) (ten_sm (by decide))
        exact hfin
      · cases h3 : dig a'
        · simp only [Option.bind_some, Bool.false_eq_true, if_false, if_true, Bool.not_true, Bool.not_false, Bool.false_and, Bool.true_and]; rfl
        · simp only [Option.bind_some, Bool.false_eq_true, if_false, if_true, Bool.not_true, Bool.not_false, Bool.false_and, Bool.true_and]
          have d2 := dig_append d1 h3
          have hl2 : (b' ++ a').length ≤ 1000 := by rw [List.length_append]; omega
          rw [must_eq (by omega), n_text_eq d2 hl2, Option.bind_some, tens_is _ (by omega), Option.bind_some, Option.bind_some]
          dsimp only
          have hfin := fin_is neg (decv (b' ++ a')) (10 ^ a'.length) (Nat.pos_iff_ne_zero.1 (Nat.pow_pos (by decide))) (decv_sm' d2 (by omega)) (ten_sm (by omega))
          exact hfin
  · simp only [Option.bind_some, Bool.false_eq_true, if_false, if_true, Bool.not_true, Bool.not_false, Bool.false_and, Bool.true_and]
    rw [isInt_is _ (by omega), isInt_is _ (by omega)]
    cases h1 : intT b
    · simp only [Option.bind_some, Bool.false_eq_true, if_false, if_true, Bool.not_true, Bool.not_false, Bool.false_and, Bool.true_and]; rfl
    · cases h2 : intT a
      · simp only [Option.bind_some, Bool.false_eq_true, if_false, if_true, Bool.not_true, Bool.not_false, Bool.false_and, Bool.true_and]; rfl
      · have d1 := intT_dig h1
        have d2 := intT_dig h2
        simp only [Option.bind_some, Bool.false_eq_true, if_false, if_true, Bool.not_true, Bool.not_false, Bool.false_and, Bool.true_and]
        rw [n_text_eq d1 (by omega), n_text_eq d2 (by omega)]
        simp only [Option.bind_some, Bool.false_eq_true, if_false, if_true, Bool.not_true, Bool.not_false, Bool.false_and, Bool.true_and]
        rw [len_zero_iff]
        by_cases h0 : decv a = 0
        · rw [if_pos (decide_eq_true h0), if_pos h0]; rfl
        · rw [if_neg (by simpa using h0), if_neg h0]
          have hfin := fin_is neg _ _ h0 (decv_sm' d1 (by omega)) (decv_sm' d2 (by omega))
          exact hfin
theorem Parse_is (s : List UInt8) (hs : s.length ≤ 9223372036854775807) : m_Parse s = some (rp (parseQ s).1, (parseQ s).2) := by
  unfold m_Parse parseQ
  by_cases h : 1000 < s.length
  · rw [if_pos (decide_eq_true (by omega)), if_pos h]; rfl
  · rw [if_neg (by simp; omega), if_neg h, CutMinus_is s (by omega), one_of]
    by_cases hm : s.head? = some 45
    · rw [if_pos hm, if_pos hm]
      simp only [Option.bind_some]
      exact ParseU_is true (s.drop 1) (by rw [List.length_drop]; omega)
    · rw [if_neg hm, if_neg hm]
      simp only [Option.bind_some]
      exact ParseU_is false s (by omega)
def q_parse (s : List UInt8) : Option (Rat × Int) := must (s.length ≤ 9223372036854775807) (some (parseQ s))
theorem Q_parse {a1 : List UInt8} {r2 : Rat} {r3 : Int} (h : q_parse a1 = some (r2, r3)) : CtrG PP 23 [] [strD a1] [] (D.tup [qD r2, D.int .i64 r3]) := by
  obtain ⟨h0, h⟩ := must_some h
  have e := Parse_is a1 h0
  injection h with h
  rw [h] at e
  exact C_Parse e
end Go.Am
namespace Go.Am
open Go.RowKit
end Go.Am
namespace Go.Am
open Go.RowKit
set_option maxRecDepth 100000
noncomputable section
def m_nearer (a1 : Rat) (a2 : Rat) (a3 : Rat) : Option Rat := (q_sub a2 a1).bind fun v4 => (q_abs v4).bind fun v6 => (q_sub a3 a1).bind fun v8 => (q_abs v8).bind fun v10 => (q_cmp v6 v10).bind fun v12 => ((if (v12 == 0) = true then (q_den a2).bind fun v17 => (q_den a3).bind fun v19 => (q_cmp v17 v19).bind fun v21 => some (v21) else some (v12))).bind fun v23 => ((if (decide (v23 < 0)) = true then some (Ex.ret a2) else (if (v23 == 0) = true then (q_cmp a2 a3).bind fun v28 => (if (decide (v28 < 0)) = true then some (Ex.ret a2) else some (Ex.brk ())) else some (Ex.brk ())))).bind fun o24 => (match o24 with | Ex.brk () => some a3 | Ex.ret r31 => some r31)
theorem C_nearer {a1 : Rat} {a2 : Rat} {a3 : Rat} {r32 : Rat} (h : m_nearer a1 a2 a3 = some r32) : CtrG PP 165 [] [qD a1, qD a2, qD a3] [] (qD r32) := by
  unfold m_nearer at h
  refine .of Go.Proofs.Tryz.func165 rfl (by kernel_rfl) rfl rfl rfl rfl rfl rfl (fun A w0 L b => ?_)
  show Ok PP _ [(0, qD a1), (1, qD a2), (2, qD a3)] [] _ _
  refine .reg (.bxA rfl rfl <| .bxA rfl rfl <| .bxA rfl rfl <| .alL (qC (0)) z_exact_Q ⟨zq1, zq2, zq3, trivial⟩ rfl <| .nil) rfl ?_
  obtain ⟨v4, e5, h⟩ := bind_some h
  obtain ⟨v6, e7, h⟩ := bind_some h
  obtain ⟨v8, e9, h⟩ := bind_some h
  obtain ⟨v10, e11, h⟩ := bind_some h
  obtain ⟨v12, e13, h⟩ := bind_some h
  refine .regD hmix (.ldE (qC (a2)) rfl rfl ly_exact_Q rfl rfl <| .ldE (qC (a1)) rfl rfl ly_exact_Q rfl rfl <| .callG (Q_sub e5) ⟨rfl, rfl, trivial⟩ trivial trivial <| .callG (Q_abs e7) ⟨rfl, trivial⟩ trivial trivial <| .ldE (qC (a3)) rfl rfl ly_exact_Q rfl rfl <| .ldE (qC (a1)) rfl rfl ly_exact_Q rfl rfl <| .callG (Q_sub e9) ⟨rfl, rfl, trivial⟩ trivial trivial <| .callG (Q_abs e11) ⟨rfl, trivial⟩ trivial trivial <| .callG (Q_cmp e13) ⟨rfl, rfl, trivial⟩ trivial trivial <| .asg rfl <| .nil) rfl (by kernel_rfl) ?_
  obtain ⟨v23, hp15, h⟩ := bind_some h
  refine .cutX (fun i => v23 = i) (fun (i : Int) => [(4, D.ref 4 0), (5, D.ref 5 0), (6, D.ref 6 0), (7, D.int .i64 i)]) (fun (i : Int) => [(4, Hp.box 28 (qC (a2))), (5, Hp.box 28 (qC (a3))), (6, Hp.box 28 (qC (0)))]) ?_ ?_
  · have ho1 := h
    clear h
    have h := hp15
    clear hp15
    refine .reg (.mv rfl <| .cm rfl rfl rfl <| .nil) rfl ?_
    by_cases c16 : (v12 == 0) = true
    · replace h := ite_pos_some c16 h
      refine .cTb rfl c16 ?_
      obtain ⟨v17, e18, h⟩ := bind_some h
      obtain ⟨v19, e20, h⟩ := bind_some h
      obtain ⟨v21, e22, h⟩ := bind_some h
      refine .regionD hmix (.ldE (qC (a2)) rfl rfl ly_exact_Q rfl rfl <| .callG (Q_den e18) ⟨rfl, trivial⟩ trivial trivial <| .ldE (qC (a3)) rfl rfl ly_exact_Q rfl rfl <| .callG (Q_den e20) ⟨rfl, trivial⟩ trivial trivial <| .callG (Q_cmp e22) ⟨rfl, rfl, trivial⟩ trivial trivial <| .asg rfl <| .nil) rfl (by kernel_rfl) (fun _ _ hs => ⟨v21, (Option.some.inj h).symm, hs.sub ⟨⟨_, rfl, .refl _⟩, ⟨_, rfl, .refl _⟩, ⟨_, rfl, .refl _⟩, ⟨_, rfl, .refl _⟩, trivial⟩ ⟨⟨_, rfl, .refl _⟩, ⟨_, rfl, .refl _⟩, ⟨_, rfl, .refl _⟩, trivial⟩ rfl rfl⟩)
    · replace h := ite_neg_some c16 h
      refine .cFb rfl c16 ?_
      refine .skip (fun _ _ hs => ⟨v12, (Option.some.inj h).symm, hs.sub ⟨⟨_, rfl, .refl _⟩, ⟨_, rfl, .refl _⟩, ⟨_, rfl, .refl _⟩, ⟨_, rfl, .refl _⟩, trivial⟩ ⟨⟨_, rfl, .refl _⟩, ⟨_, rfl, .refl _⟩, ⟨_, rfl, .refl _⟩, trivial⟩ rfl rfl⟩)
  · rintro _ rfl
    show Ok PP _ [(4, D.ref 4 0), (5, D.ref 5 0), (6, D.ref 6 0), (7, D.int .i64 v23)] [(4, Hp.box 28 (qC (a2))), (5, Hp.box 28 (qC (a3))), (6, Hp.box 28 (qC (0)))] _ _
    obtain ⟨o24, hp25, h⟩ := bind_some h
    refine .cutX (fun i => o24 = Ex.brk i) (fun (i : Unit) => [(5, D.ref 5 0), (6, D.ref 6 0)]) (fun (i : Unit) => [(5, Hp.box 28 (qC (a3))), (6, Hp.box 28 (qC (0)))]) ?_ ?_
    · have ho1 := h
      clear h
      have h := hp25
      clear hp25
      by_cases c26 : (decide (v23 < 0)) = true
      · replace h := ite_pos_some c26 h
        refine .reg (.mv rfl <| .cm rfl rfl rfl <| .mv rfl <| .gNf rfl rfl rfl c26 <| .gNf rfl rfl rfl c26 <| .gNf rfl rfl rfl c26 <| .gU rfl rfl <| .gU rfl rfl <| .gU rfl rfl <| .gU rfl rfl <| .gNf rfl rfl rfl c26 <| .pkTb rfl c26 rfl <| .nil) rfl ?_
        refine .cTb rfl rfl ?_
        refine .reg (.ldE (qC (a2)) rfl rfl ly_exact_Q rfl rfl <| .stE (qC (a2)) rfl rfl rfl ly_exact_Q rfl rfl rfl <| .nil) rfl ?_
        cases h
        have h := ho1
        clear ho1
        cases h
        refine .retG (fun _ _ hb => hb) rfl (.cons (.agg rfl rfl ly_exact_Q rfl) .nil) (.refl _) trivial trivial
      · replace h := ite_neg_some c26 h
        by_cases c27 : (v23 == 0) = true
        · replace h := ite_pos_some c27 h
          obtain ⟨v28, e29, h⟩ := bind_some h
          refine .reg (.mv rfl <| .cm rfl rfl rfl <| .mv rfl <| .gYf rfl rfl rfl c26 <| .mv rfl <| .gYf rfl rfl rfl c26 <| .cm rfl rfl rfl <| .gYf rfl rfl rfl c26 <| .mv rfl <| .gYt rfl rfl rfl c27 <| .ldE (qC (a2)) rfl rfl ly_exact_Q rfl rfl <| .gYt rfl rfl rfl c27 <| .ldE (qC (a3)) rfl rfl ly_exact_Q rfl rfl <| .gYt rfl rfl rfl c27 <| .callG (Q_cmp e29) ⟨rfl, rfl, trivial⟩ trivial trivial <| .gYt rfl rfl rfl c27 <| .cm rfl rfl rfl <| .gYf rfl rfl rfl c26 <| .pkTb rfl c27 rfl <| .pkFb rfl c26 rfl <| .nil) rfl ?_
          by_cases c30 : (decide (v28 < 0)) = true
          · replace h := ite_pos_some c30 h
            refine .cTb rfl c30 ?_
            refine .reg (.ldE (qC (a2)) rfl rfl ly_exact_Q rfl rfl <| .stE (qC (a2)) rfl rfl rfl ly_exact_Q rfl rfl rfl <| .nil) rfl ?_
            cases h
            have h := ho1
            clear ho1
            cases h
            refine .retG (fun _ _ hb => hb) rfl (.cons (.agg rfl rfl ly_exact_Q rfl) .nil) (.refl _) trivial trivial
          · replace h := ite_neg_some c30 h
            refine .cFb rfl c30 ?_
            refine .skip (fun _ _ hs => ⟨(), (Option.some.inj h).symm, hs.sub ⟨⟨_, rfl, .refl _⟩, ⟨_, rfl, .refl _⟩, trivial⟩ ⟨⟨_, rfl, .refl _⟩, ⟨_, rfl, .refl _⟩, trivial⟩ rfl rfl⟩)
        · replace h := ite_neg_some c27 h
          refine .reg (.mv rfl <| .cm rfl rfl rfl <| .mv rfl <| .gYf rfl rfl rfl c26 <| .mv rfl <| .gYf rfl rfl rfl c26 <| .cm rfl rfl rfl <| .gYf rfl rfl rfl c26 <| .mv rfl <| .gNt rfl rfl rfl c27 <| .gNt rfl rfl rfl c27 <| .gNt rfl rfl rfl c27 <| .gNt rfl rfl rfl c27 <| .gYf rfl rfl rfl c26 <| .pkFb rfl c27 rfl <| .pkFb rfl c26 rfl <| .nil) rfl ?_
          refine .cFb rfl (by decide) ?_
          refine .skip (fun _ _ hs => ⟨(), (Option.some.inj h).symm, hs.sub ⟨⟨_, rfl, .refl _⟩, ⟨_, rfl, .refl _⟩, trivial⟩ ⟨⟨_, rfl, .refl _⟩, ⟨_, rfl, .refl _⟩, trivial⟩ rfl rfl⟩)
    · rintro ⟨⟩ rfl
      show Ok PP _ [(5, D.ref 5 0), (6, D.ref 6 0)] [(5, Hp.box 28 (qC (a3))), (6, Hp.box 28 (qC (0)))] _ _
      refine .reg (.ldE (qC (a3)) rfl rfl ly_exact_Q rfl rfl <| .stE (qC (a3)) rfl rfl rfl ly_exact_Q rfl rfl rfl <| .nil) rfl ?_
      cases h
      refine .retG (fun _ _ hb => hb) rfl (.cons (.agg rfl rfl ly_exact_Q rfl) .nil) (.refl _) trivial trivial
end
end Go.Am
namespace Go.Am
abbrev FR (l : Nat) : Fence := Fence.wide.inRound l
theorem fencedR (P : Program) (l : Nat) (m : Machine) : m.fenced P (FR l) := by
  have := fenced_wide P m
  exact this
theorem stepsInR {P : Program} {l : Nat} {m m' : Machine} : StepsIn (Machine.fenced P (FR l)) P m m' ↔ Steps P m m' :=
  ⟨StepsIn.steps, fun h => (StepsIn.of_steps h).mono fun m _ => fencedR P l m⟩
theorem comesInR {P : Program} {l : Nat} {m m' : Machine} {e : Ending} : ComesIn (Machine.fenced P (FR l)) P m m' e ↔ Comes P m m' e := by
  cases e with
  | returned v => exact stepsInR
  | panicked chain => exact stepsInR
  | outgrown => exact Iff.rfl
theorem callsInR {l n : Nat} {P : Program} {f : FuncId} {args : Array Value} {w : World} {R : Ending → World → Prop} (h : Calls P f args w R) : CallsIn (FR l) n P f args w R :=
  ⟨trivial, fun cs _ => let ⟨e, w', fr, r, s, x⟩ := h cs; ⟨e, w', fr, r, comesInR.2 s, x⟩⟩
theorem rowsInR {l n : Nat} {P : Program} {row : String} {args : Array Value} {w : World} {R : Value → World → Prop} (h : Rows P row args w R) : RowsIn (FR l) n P row args w R :=
  fun c cs _ => let ⟨v, w', r, s⟩ := h c cs; ⟨v, w', r, stepsInR.2 s⟩
theorem upon_in {P : Program} {l n : Nat} {o : Oper} {a : Act} {next next' : Act → World → Prop} {Q : Exit → Act → World → Prop} (hn : ∀ a w, next a w → next' a w) : ∀ {r : Result Next}, o.upon P a next Q r → o.uponIn (FR l) n P a next' Q r
  | .ok (.value v) w', h => hn _ _ h
  | .ok .skip w', h => hn _ _ h
  | .ok (.defer d) w', h => hn _ _ h
  | .ok (.enter f args) w', h => ⟨fun hd => (by simp [FR, Fence.wide] at hd), callsInR (Calls.mono h fun e w'' hr => by
      cases e with
      | returned v => exact hn _ _ hr
      | panicked chain => exact hr
      | outgrown => exact hr)⟩
  | .ok (.row row args) w', h => ⟨fun hd => (by simp [FR, Fence.wide] at hd), rowsInR (Rows.mono h fun v w'' hr => hn _ _ hr)⟩
  | .halt (.panic v) w', h => h
  | .ok (.round ..) _, h => h.elim
theorem ops_in {P : Program} {l n : Nat} {ops : Array Oper} {Q : Exit → Act → World → Prop} (hQ : ¬ LetsOut Q) (hd : ∀ (i : Nat) (o : Oper), ops[i]? = some o → ∀ c, o.op ≠ .defer c) : ∀ (is : List Nat) (a : Act) (w : World), wpOps P ops Q is a w → wpOpsIn (FR l) n P ops Q is a w
  | [], a, w, h => h
  | i :: rest, a, w, h => by
    unfold wpOps at h
    unfold wpOpsIn
    cases ho : ops[i]? with
    | none => rw [ho] at h; exact ops_in hQ hd rest a w h
    | some o =>
      rw [ho] at h
      simp only at h ⊢
      split
      · rename_i hw
        rw [if_pos hw] at h
        rcases h with h | h
        · refine ⟨fun _ _ => trivial, ?_⟩
          rw [Oper.semAt_eq _ _ _ (hd i o ho)]
          exact upon_in (fun a w hk => ops_in hQ hd rest a w hk) h
        · exact absurd h.2 hQ
      · rename_i hw
        rw [if_neg hw] at h
        exact ⟨fun _ _ => trivial, ops_in hQ hd rest _ w h⟩
def noDefer (l : List Oper) : Bool := l.all fun o => match o.op with | .defer _ => false | _ => true
theorem noDefer_get {l : List Oper} (h : noDefer l = true) (i : Nat) (o : Oper) (ho : l.toArray[i]? = some o) : ∀ c, o.op ≠ .defer c := by
  intro c hc
  have hm : o ∈ l := by rw [List.getElem?_toArray] at ho; exact List.mem_of_getElem? ho
  have := List.all_eq_true.1 h o hm
  rw [hc] at this
  cases this
def OkR (P : Program) (c : Ctx) (T : List (Nat × D)) (H : List (Nat × Hp)) (x : Code) (Q : Exit → Act → World → Prop) : Prop :=
  ∀ l n a w, Sat c (tget T) (hget H) a w → x.wpIn (FR l) n P Q a w
section
variable {P : Program} {c : Ctx} {T T' : List (Nat × D)} {H H' : List (Nat × Hp)} {Q : Exit → Act → World → Prop} {x y : Code} {id : Nat} {sps : List Spec}
theorem OkR.region {l : List Oper} (hL : ¬ LetsOut Q) (hn : noDefer l = true) (h : Runs P l.toArray c l T H sps T' H') (hd : dstsOk c.n l = true) (hQ : ∀ a w, Sat c (tget T') (hget H') a w → Q .normal a w) : OkR P c T H (.region id l.toArray false) Q := by
  intro k n a w hs
  refine wpIn_region (ops_in hL (noDefer_get hn) _ a w ?_)
  have h1 := h.wp hd hQ a w hs
  have h2 := wpOps_eq_wpList (P := P) (ops := l.toArray) (Q := Q) l 0 (by simp)
  rw [List.range_eq_range', show l.toArray.size = l.length from by simp, h2]
  exact h1
theorem OkR.regionD {l : List Oper} (hL : ¬ LetsOut Q) (hn : noDefer l = true) (hm : P.follows .mixedOrders = true) (h : Runs P l.toArray c l T H sps T' H') (hd : dstsOk c.n l = true) (hord : ordOk [] [] 0 (l.zip sps) = true) (hQ : ∀ a w, Sat c (tget T') (hget H') a w → Q .normal a w) : OkR P c T H (.region id l.toArray true) Q := by
  intro k n a w hs
  refine wpIn_region_draw fun t => ops_in hL (noDefer_get hn) _ a _ ?_
  simp only [Region.schedule, hm, Bool.true_or, if_true]
  exact wpAny_sound l.toArray.size t _ a _ (h.anyOrder hd hord hQ a w hs)
theorem letsOut_then {K : Act → World → Prop} (h : ¬ LetsOut Q) : ¬ LetsOut (Exit.then K Q) := h
theorem OkR.seq {K : Act → World → Prop} (h : OkR P c T H x (Exit.then K Q)) (hy : ∀ l n a w, K a w → y.wpIn (FR l) n P Q a w) : OkR P c T H (.seq x y) Q :=
  fun l n a w hs => wpIn_seq (wpIn_mono (h l n a w hs) (fun e a' w' q => by cases e <;> first | exact q | exact hy _ _ _ _ q))
theorem OkR.regD {l : List Oper} (hL : ¬ LetsOut Q) (hn : noDefer l = true) (hm : P.follows .mixedOrders = true) (h : Runs P l.toArray c l T H sps T' H') (hd : dstsOk c.n l = true) (hord : ordOk [] [] 0 (l.zip sps) = true) (hy : OkR P c T' H' y Q) : OkR P c T H (.seq (.region id l.toArray true) y) Q :=
  .seq (K := fun a w => Sat c (tget T') (hget H') a w) (OkR.regionD (letsOut_then hL) hn hm h hd hord (fun _ _ hs => hs)) (fun l n a w hs => hy l n a w hs)
theorem OkR.block (h : OkR P c T H x (Exit.inBlock id Q)) : OkR P c T H (.block id x) Q := fun l n a w hs => wpIn_block (h l n a w hs)
theorem OkR.exit (h : ∀ a w, Sat c (tget T) (hget H) a w → Q (.exit id) a w) : OkR P c T H (.exit id) Q := fun _ _ a w hs => wpIn_exit (h a w hs)
theorem OkR.skip (h : ∀ a w, Sat c (tget T) (hget H) a w → Q .normal a w) : OkR P c T H .skip Q := fun _ _ a w hs => wpIn_skip (h a w hs)
theorem OkR.cT {o : Operand} (h : ev T o = some (.bool true)) (k : OkR P c T H x Q) : OkR P c T H (.cond o x y) Q := by
  intro l n a w hs
  obtain ⟨ε, φ, hs'⟩ := hs
  exact wpIn_cond_true (hs'.ev (ev_split h).1 (ev_split h).2).1 (k l n a w ⟨ε, φ, hs'⟩)
theorem OkR.cF {o : Operand} (h : ev T o = some (.bool false)) (k : OkR P c T H y Q) : OkR P c T H (.cond o x y) Q := by
  intro l n a w hs
  obtain ⟨ε, φ, hs'⟩ := hs
  exact wpIn_cond_false (hs'.ev (ev_split h).1 (ev_split h).2).1 (k l n a w ⟨ε, φ, hs'⟩)
theorem OkR.sq (h : OkR P c T H x (Exit.then (fun a w => ∀ l n, y.wpIn (FR l) n P Q a w) Q)) : OkR P c T H (.seq x y) Q := .seq h (fun l n _ _ k => k l n)
end
end Go.Am
