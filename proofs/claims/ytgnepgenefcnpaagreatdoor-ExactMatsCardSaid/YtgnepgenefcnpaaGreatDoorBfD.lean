/- Part 4 of 9 of what the laws of layer 1 share: contracts of functions of the program, each for every argument of its description; no condition beyond it. -/
import Derived.Test.YtgnepgenefcnpaaGreatDoorBfC
import Derived.Shelf.Strings.SlTrimAscii
import Derived.Shelf.Strings.Trim
import Derived.Shelf.Small.Strs
import Derived.Shelf.Strings.Search1
import Derived.Shelf.Strings.Search2
import Derived.Shelf.Strings.Cut
import Derived.Test.YtgnepgenefcnpaaGreatDoorProg
set_option linter.unusedVariables false
set_option linter.unusedSimpArgs false
namespace Go.Am
open Go.RowKit
set_option maxRecDepth 100000
noncomputable section
def m_r_trim_l1 (v2 : List Int) : Option (St (List Int) (List Int)) := (if (decide ((v2.length : Int) > 0)) = true then (ix v2 (IntKind.i64.wrap ((v2.length : Int) - 1))).bind fun v8 => (if (v8 == 0) = true then must ((0 : Int) ≤ (IntKind.i64.wrap ((v2.length : Int) - 1)) ∧ ((IntKind.i64.wrap ((v2.length : Int) - 1)) : Int) ≤ (v2.length : Int)) (some (St.next (List.take (IntKind.i64.wrap ((v2.length : Int) - 1)).toNat v2))) else some (St.done v2)) else some (St.done v2))
def m_r_trim (a1 : List Int) : Option (List Int) := (Loop (fun (s : (List Int)) => m_r_trim_l1 s) a1).bind fun v12 => some v12
theorem C_r_trim {a1 : List Int} {r13 : List Int} (h : m_r_trim a1 = some r13) : CtrG PP 248 [] [slcE (Enc.int .i64) a1] [] (slcE (Enc.int .i64) r13) := by
  unfold m_r_trim at h
  refine .of Go.Proofs.Tryz.func248 rfl (by kernel_rfl) rfl rfl rfl rfl rfl rfl (fun A w0 L b => ?_)
  show Ok PP _ [(0, slcE (Enc.int .i64) a1)] [] _ _
  refine .reg (.asg rfl <| .nil) rfl ?_
  obtain ⟨v12, hl4, h⟩ := bind_some h
  refine .cutX (fun i => v12 = i) (fun (i : (List Int)) => [(0, slcE (Enc.int .i64) i)]) (fun (i : (List Int)) => []) ?_ ?_
  · have ho1 := h
    clear h
    refine .block (.loopL (fun (s : (List Int)) => [(0, slcE (Enc.int .i64) s)]) (fun (s : (List Int)) => []) hl4 ⟨⟨_, rfl, .refl _⟩, trivial⟩ trivial rfl rfl ?_)
    rintro v2 st5 hb6
    have h : m_r_trim_l1 v2 = some st5 := hb6
    clear hb6
    unfold m_r_trim_l1 at h
    show Ok PP _ [(0, slcE (Enc.int .i64) v2)] [] _ _
    refine .sq ?_
    by_cases c7 : (decide ((v2.length : Int) > 0)) = true
    · replace h := ite_pos_some c7 h
      obtain ⟨v8, e9, h⟩ := bind_some h
      refine .reg (.mv rfl <| .lnE rfl is_Lint <| .cm rfl rfl rfl <| .mv rfl <| .gYt rfl rfl rfl c7 <| .mv rfl <| .gYt rfl rfl rfl c7 <| .mv rfl <| .gYt rfl rfl rfl c7 <| .lnE rfl is_Lint <| .gYt rfl rfl rfl c7 <| .ar rfl rfl rfl <| .gYt rfl rfl rfl c7 <| .ixE rfl rfl se_Lint (ix_some e9).1 (ix_some e9).2 <| .gYt rfl rfl rfl c7 <| .lp1 rfl ly_int <| .gYt rfl rfl rfl c7 <| .cm rfl rfl rfl <| .pkTb rfl c7 rfl <| .nil) rfl ?_
      by_cases c10 : (v8 == 0) = true
      · replace h := ite_pos_some c10 h
        refine .cTb rfl c10 ?_
        refine .skip (Ok.on ?_)
        refine .block ?_
        obtain ⟨k11, h⟩ := must_some h
        refine .region (.mv rfl <| .mv rfl <| .lnE rfl is_Lint <| .ar rfl rfl rfl <| .slHE rfl rfl se_Lint k11.1 k11.2 <| .asg rfl <| .nil) rfl (fun _ _ hs => ⟨(List.take (IntKind.i64.wrap ((v2.length : Int) - 1)).toNat v2), (Option.some.inj h).symm, hs.sub ⟨⟨_, rfl, .refl _⟩, trivial⟩ trivial rfl rfl⟩)
      · replace h := ite_neg_some c10 h
        refine .cFb rfl c10 ?_
        refine .exit (fun _ _ hs => ⟨_, (Option.some.inj h).symm, fun e => ⟨v2, e.symm, hs.sub ⟨⟨_, rfl, .refl _⟩, trivial⟩ trivial rfl rfl⟩⟩)
    · replace h := ite_neg_some c7 h
      refine .reg (.mv rfl <| .lnE rfl is_Lint <| .cm rfl rfl rfl <| .mv rfl <| .gNt rfl rfl rfl c7 <| .gNt rfl rfl rfl c7 <| .gNt rfl rfl rfl c7 <| .gNt rfl rfl rfl c7 <| .gNt rfl rfl rfl c7 <| .gNt rfl rfl rfl c7 <| .gNt rfl rfl rfl c7 <| .pkFb rfl c7 rfl <| .nil) rfl ?_
      refine .cFb rfl (by decide) ?_
      refine .exit (fun _ _ hs => ⟨_, (Option.some.inj h).symm, fun e => ⟨v2, e.symm, hs.sub ⟨⟨_, rfl, .refl _⟩, trivial⟩ trivial rfl rfl⟩⟩)
  · rintro _ rfl
    show Ok PP _ [(0, slcE (Enc.int .i64) v12)] [] _ _
    refine .reg (.mv rfl <| .asg rfl <| .nil) rfl ?_
    cases h
    refine .retG (fun _ _ hb => hb) rfl (.cons (.tmp rfl) .nil) (.refl _) trivial trivial
def m_r_ZInt_l1 (v2 : Int) (v3 : List Int) : Option (St (Int × (List Int)) (List Int)) := (if (v2 != 0) = true then ((if (decide ((Int.tmod v2 10000) < 0)) = true then some ((IntKind.i64.wrap (0 - (Int.tmod v2 10000)))) else some ((Int.tmod v2 10000)))).bind fun v12 => must ((v3.length + ([v12]).length) * 8 ≤ 140737488355328 ∧ v3.length + ([v12]).length ≤ 9223372036854775807) (some (St.next ((IntKind.i64.wrap (Int.tdiv v2 10000)), (v3 ++ [v12])))) else some (St.done v3))
def m_r_ZInt (a1 : Int) : Option (Bool × (List Int)) := (Loop (fun (s : Int × (List Int)) => m_r_ZInt_l1 s.1 s.2) (a1, [])).bind fun v14 => some ((decide (a1 < 0)), v14)
theorem C_r_ZInt {a1 : Int} {r15 : Bool} {r16 : List Int} (h : m_r_ZInt a1 = some (r15, r16)) : CtrG PP 157 [] [D.int .i64 a1] [] (D.agg ([D.bool r15, slcE (Enc.int .i64) r16])) := by
  unfold m_r_ZInt at h
  refine .of Go.Proofs.Tryz.func157 rfl (by kernel_rfl) rfl rfl rfl rfl rfl rfl (fun A w0 L b => ?_)
  show Ok PP _ [(0, D.int .i64 a1)] [] _ _
  refine .reg (.alL ([D.bool false, D.nil]) z_ambleref01_Z ⟨.refl _, .refl _, trivial⟩ rfl <| .nil) rfl ?_
  refine .reg (.alL ([D.bool false, D.nil]) z_ambleref01_Z ⟨.refl _, .refl _, trivial⟩ rfl <| .nil) rfl ?_
  refine .reg (.mv rfl <| .cm rfl rfl rfl <| .fa rfl f_ambleref01_Z_0 <| .stE1 ([D.bool (decide (a1 < 0)), D.nil]) rfl rfl rfl ly_bool rfl rfl rfl <| .nil) rfl ?_
  refine .nilB (Enc.int .i64) 3 1 2000301 3 ([D.bool (decide (a1 < 0)), D.own 2000301]) rfl rfl rfl rfl ?_
  obtain ⟨v14, hl5, h⟩ := bind_some h
  refine .cutX (fun i => v14 = i) (fun (i : (List Int)) => [(2, D.ref 2 0), (3, D.ref 3 0)]) (fun (i : (List Int)) => [(2, Hp.box 35 ([D.bool false, D.nil])), (3, Hp.box 35 ([D.bool (decide (a1 < 0)), D.own 2000301])), (2000301, rowE (Enc.int .i64) 3 i)]) ?_ ?_
  · have ho1 := h
    clear h
    refine .block (.loopL (fun (s : Int × (List Int)) => [(0, D.int .i64 s.1), (2, D.ref 2 0), (3, D.ref 3 0)]) (fun (s : Int × (List Int)) => [(2, Hp.box 35 ([D.bool false, D.nil])), (3, Hp.box 35 ([D.bool (decide (a1 < 0)), D.own 2000301])), (2000301, rowE (Enc.int .i64) 3 s.2)]) hl5 ⟨⟨_, rfl, .refl _⟩, ⟨_, rfl, .refl _⟩, ⟨_, rfl, .refl _⟩, trivial⟩ ⟨⟨_, rfl, .refl _⟩, ⟨_, rfl, .refl _⟩, ⟨_, rfl, .refl _⟩, trivial⟩ rfl rfl ?_)
    rintro ⟨v2, v3⟩ st6 hb7
    have h : m_r_ZInt_l1 v2 v3 = some st6 := hb7
    clear hb7
    unfold m_r_ZInt_l1 at h
    show Ok PP _ [(0, D.int .i64 v2), (2, D.ref 2 0), (3, D.ref 3 0)] [(2, Hp.box 35 ([D.bool false, D.nil])), (3, Hp.box 35 ([D.bool (decide (a1 < 0)), D.own 2000301])), (2000301, rowE (Enc.int .i64) 3 v3)] _ _
    refine .sq ?_
    refine .reg (.mv rfl <| .cm rfl rfl rfl <| .nil) rfl ?_
    by_cases c8 : (v2 != 0) = true
    · replace h := ite_pos_some c8 h
      refine .cTb rfl c8 ?_
      refine .skip (Ok.on ?_)
      refine .block ?_
      refine .reg (.mv rfl <| .ar rfl rfl (irem (by decide)) <| .asg rfl <| .nil) rfl ?_
      obtain ⟨v12, hp10, h⟩ := bind_some h
      refine .cutX (fun i => v12 = i) (fun (i : Int) => [(0, D.int .i64 v2), (2, D.ref 2 0), (3, D.ref 3 0), (4, D.int .i64 i)]) (fun (i : Int) => [(2, Hp.box 35 ([D.bool false, D.nil])), (3, Hp.box 35 ([D.bool (decide (a1 < 0)), D.own 2000301])), (2000301, rowE (Enc.int .i64) 3 v3)]) ?_ ?_
      · have ho2 := h
        clear h
        have h := hp10
        clear hp10
        refine .reg (.mv rfl <| .cm rfl rfl rfl <| .nil) rfl ?_
        by_cases c11 : (decide ((Int.tmod v2 10000) < 0)) = true
        · replace h := ite_pos_some c11 h
          refine .cTb rfl c11 ?_
          refine .region (.mv rfl <| .neg rfl rfl <| .asg rfl <| .nil) rfl (fun _ _ hs => ⟨(IntKind.i64.wrap (0 - (Int.tmod v2 10000))), (Option.some.inj h).symm, hs.sub ⟨⟨_, rfl, .refl _⟩, ⟨_, rfl, .refl _⟩, ⟨_, rfl, .refl _⟩, ⟨_, rfl, .refl _⟩, trivial⟩ ⟨⟨_, rfl, .refl _⟩, ⟨_, rfl, .refl _⟩, ⟨_, rfl, .refl _⟩, trivial⟩ rfl rfl⟩)
        · replace h := ite_neg_some c11 h
          refine .cFb rfl c11 ?_
          refine .skip (fun _ _ hs => ⟨(Int.tmod v2 10000), (Option.some.inj h).symm, hs.sub ⟨⟨_, rfl, .refl _⟩, ⟨_, rfl, .refl _⟩, ⟨_, rfl, .refl _⟩, ⟨_, rfl, .refl _⟩, trivial⟩ ⟨⟨_, rfl, .refl _⟩, ⟨_, rfl, .refl _⟩, ⟨_, rfl, .refl _⟩, trivial⟩ rfl rfl⟩)
      · rintro _ rfl
        show Ok PP _ [(0, D.int .i64 v2), (2, D.ref 2 0), (3, D.ref 3 0), (4, D.int .i64 v12)] [(2, Hp.box 35 ([D.bool false, D.nil])), (3, Hp.box 35 ([D.bool (decide (a1 < 0)), D.own 2000301])), (2000301, rowE (Enc.int .i64) 3 v3)] _ _
        obtain ⟨k13, h⟩ := must_some h
        refine .reg (.fa rfl f_ambleref01_Z_1 <| .ldE1 (D.own 2000301) rfl rfl ly_Lint rfl <| .mv rfl <| .blQ (e := (Enc.int .i64)) [v12] [(0, _, D.int .i64 v12, [D.int .i64 v12])] mk_Lint rfl rfl rfl ⟨rfl, rfl, .one rfl, rfl, trivial⟩ ⟨rfl, trivial⟩ rfl rfl <| .apD (ys := [v12]) rfl (.refl _) rfl (.refl _) rfl mk_Lint rfl k13.1 k13.2 rfl <| .fa rfl f_ambleref01_Z_1 <| .stE1 ([D.bool (decide (a1 < 0)), D.own 20]) rfl rfl rfl ly_Lint rfl rfl rfl <| .nil) rfl ?_
        refine .region (.mv rfl <| .ar rfl rfl (iquo (by decide)) <| .asg rfl <| .nil) rfl (fun _ _ hs => ⟨((IntKind.i64.wrap (Int.tdiv v2 10000)), (v3 ++ [v12])), (Option.some.inj h).symm, hs.subR (fun r => match r with | 2000301 => 20 | r => r) ⟨⟨_, rfl, .refl rfl⟩, ⟨_, rfl, .ref (r := 2)⟩, ⟨_, rfl, .ref (r := 3)⟩, trivial⟩ ⟨⟨_, rfl, .refl rfl⟩, ⟨_, rfl, .box ⟨.refl rfl, .own (r := 2000301), trivial⟩⟩, ⟨_, rfl, .refl rfl⟩, trivial⟩ rfl rfl rfl⟩)
    · replace h := ite_neg_some c8 h
      refine .cFb rfl c8 ?_
      refine .exit (fun _ _ hs => ⟨_, (Option.some.inj h).symm, fun e => ⟨v3, e.symm, hs.sub ⟨⟨_, rfl, .refl _⟩, ⟨_, rfl, .refl _⟩, trivial⟩ ⟨⟨_, rfl, .refl _⟩, ⟨_, rfl, .refl _⟩, ⟨_, rfl, .refl _⟩, trivial⟩ rfl rfl⟩⟩)
  · rintro _ rfl
    show Ok PP _ [(2, D.ref 2 0), (3, D.ref 3 0)] [(2, Hp.box 35 ([D.bool false, D.nil])), (3, Hp.box 35 ([D.bool (decide (a1 < 0)), D.own 2000301])), (2000301, rowE (Enc.int .i64) 3 v14)] _ _
    refine .reg (.ldE ([D.bool (decide (a1 < 0)), D.own 2000301]) rfl rfl ly_ambleref01_Z rfl rfl <| .stE ([D.bool (decide (a1 < 0)), D.own 2000301]) rfl rfl rfl ly_ambleref01_Z rfl rfl rfl <| .nil) rfl ?_
    refine .giveB 2 1 ([D.bool (decide (a1 < 0)), slcE (Enc.int .i64) v14]) rfl rfl rfl rfl rfl ?_
    cases h
    refine .retG (fun _ _ hb => hb) rfl (.cons (.agg rfl rfl ly_ambleref01_Z rfl) .nil) (.refl _) trivial trivial
def m_r_abs_l1 (a1 : List Int) (a2 : List Int) (v7 : Int) : Option (St Int (Ex Unit Int)) := (if (decide (v7 ≥ 0)) = true then (ix a1 v7).bind fun v13 => (ix a2 v7).bind fun v15 => (if (v13 != v15) = true then (ix a1 v7).bind fun v18 => (ix a2 v7).bind fun v20 => (if (decide (v18 < v20)) = true then some (St.done (Ex.ret (-1))) else some (St.done (Ex.ret 1))) else some (St.next (IntKind.i64.wrap (v7 - 1)))) else some (St.done (Ex.brk ())))
def m_r_abs (a1 : List Int) (a2 : List Int) : Option Int := (if ((a1.length : Int) != (a2.length : Int)) = true then (if (decide ((a1.length : Int) < (a2.length : Int))) = true then some (-1) else some 1) else ((Loop (fun (s : Int) => m_r_abs_l1 a1 a2 s) (IntKind.i64.wrap ((a1.length : Int) - 1))).bind fun o8 => (match o8 with | Ex.brk () => some (Ex.brk ()) | Ex.ret r23 => some (Ex.ret r23))).bind fun o5 => (match o5 with | Ex.brk () => some 0 | Ex.ret r24 => some r24))
theorem C_r_abs {a1 : List Int} {a2 : List Int} {r25 : Int} (h : m_r_abs a1 a2 = some r25) : CtrG PP 218 [] [slcE (Enc.int .i64) a1, slcE (Enc.int .i64) a2] [] (D.int .i64 r25) := by
  unfold m_r_abs at h
  refine .of Go.Proofs.Tryz.func218 rfl (by kernel_rfl) rfl rfl rfl rfl rfl rfl (fun A w0 L b => ?_)
  show Ok PP _ [(0, slcE (Enc.int .i64) a1), (1, slcE (Enc.int .i64) a2)] [] _ _
  refine .reg (.asg rfl <| .nil) rfl ?_
  refine .sq ?_
  refine .reg (.mv rfl <| .lnE rfl is_Lint <| .mv rfl <| .lnE rfl is_Lint <| .cm rfl rfl rfl <| .nil) rfl ?_
  by_cases c3 : ((a1.length : Int) != (a2.length : Int)) = true
  · replace h := ite_pos_some c3 h
    refine .cTb rfl c3 ?_
    refine .sq ?_
    refine .reg (.mv rfl <| .lnE rfl is_Lint <| .mv rfl <| .lnE rfl is_Lint <| .cm rfl rfl rfl <| .nil) rfl ?_
    by_cases c4 : (decide ((a1.length : Int) < (a2.length : Int))) = true
    · replace h := ite_pos_some c4 h
      refine .cTb rfl c4 ?_
      refine .reg (.asg rfl <| .nil) rfl ?_
      cases h
      refine .retG (fun _ _ hb => hb) rfl (.cons (.tmp rfl) .nil) (.refl _) trivial trivial
    · replace h := ite_neg_some c4 h
      refine .cFb rfl c4 ?_
      refine .skip (Ok.on ?_)
      refine .reg (.asg rfl <| .nil) rfl ?_
      cases h
      refine .retG (fun _ _ hb => hb) rfl (.cons (.tmp rfl) .nil) (.refl _) trivial trivial
  · replace h := ite_neg_some c3 h
    refine .cFb rfl c3 ?_
    refine .skip (Ok.on ?_)
    obtain ⟨o5, hp6, h⟩ := bind_some h
    refine .cutX (fun i => o5 = Ex.brk i) (fun (i : Unit) => []) (fun (i : Unit) => []) ?_ ?_
    · have ho1 := h
      clear h
      have h := hp6
      clear hp6
      refine .reg (.mv rfl <| .lnE rfl is_Lint <| .ar rfl rfl rfl <| .asg rfl <| .nil) rfl ?_
      obtain ⟨o8, hl9, h⟩ := bind_some h
      have ho2 := h
      clear h
      refine .block (.loopL (fun (s : Int) => [(0, slcE (Enc.int .i64) a1), (1, slcE (Enc.int .i64) a2), (5, D.int .i64 s)]) (fun (s : Int) => []) hl9 ⟨⟨_, rfl, .refl _⟩, ⟨_, rfl, .refl _⟩, ⟨_, rfl, .refl _⟩, trivial⟩ trivial rfl rfl ?_)
      rintro v7 st10 hb11
      have h : m_r_abs_l1 a1 a2 v7 = some st10 := hb11
      clear hb11
      unfold m_r_abs_l1 at h
      show Ok PP _ [(0, slcE (Enc.int .i64) a1), (1, slcE (Enc.int .i64) a2), (5, D.int .i64 v7)] [] _ _
      refine .sq ?_
      refine .reg (.mv rfl <| .cm rfl rfl rfl <| .nil) rfl ?_
      by_cases c12 : (decide (v7 ≥ 0)) = true
      · replace h := ite_pos_some c12 h
        refine .cTb rfl c12 ?_
        refine .skip (Ok.on ?_)
        refine .sq ?_
        refine .block ?_
        obtain ⟨v13, e14, h⟩ := bind_some h
        obtain ⟨v15, e16, h⟩ := bind_some h
        refine .regD hmix (.mv rfl <| .mv rfl <| .ixE rfl rfl se_Lint (ix_some e14).1 (ix_some e14).2 <| .lp1 rfl ly_int <| .mv rfl <| .mv rfl <| .ixE rfl rfl se_Lint (ix_some e16).1 (ix_some e16).2 <| .lp1 rfl ly_int <| .cm rfl rfl rfl <| .nil) rfl (by kernel_rfl) ?_
        by_cases c17 : (v13 != v15) = true
        · replace h := ite_pos_some c17 h
          refine .cTb rfl c17 ?_
          refine .sq ?_
          obtain ⟨v18, e19, h⟩ := bind_some h
          obtain ⟨v20, e21, h⟩ := bind_some h
          refine .regD hmix (.mv rfl <| .mv rfl <| .ixE rfl rfl se_Lint (ix_some e19).1 (ix_some e19).2 <| .lp1 rfl ly_int <| .mv rfl <| .mv rfl <| .ixE rfl rfl se_Lint (ix_some e21).1 (ix_some e21).2 <| .lp1 rfl ly_int <| .cm rfl rfl rfl <| .nil) rfl (by kernel_rfl) ?_
          by_cases c22 : (decide (v18 < v20)) = true
          · replace h := ite_pos_some c22 h
            refine .cTb rfl c22 ?_
            refine .reg (.asg rfl <| .nil) rfl ?_
            refine .retG (Hi := []) (Ho := []) (b := b) (fn := Go.Proofs.Tryz.f218) (d := D.int .i64 (-1)) (fun _ _ hb => by exact ⟨_, (Option.some.inj h).symm, fun e => by subst e; have h := ho2; cases h; have h := ho1; cases h; exact hb⟩) rfl (.cons (.tmp rfl) .nil) (.refl _) trivial trivial
          · replace h := ite_neg_some c22 h
            refine .cFb rfl c22 ?_
            refine .skip (Ok.on ?_)
            refine .reg (.asg rfl <| .nil) rfl ?_
            refine .retG (Hi := []) (Ho := []) (b := b) (fn := Go.Proofs.Tryz.f218) (d := D.int .i64 1) (fun _ _ hb => by exact ⟨_, (Option.some.inj h).symm, fun e => by subst e; have h := ho2; cases h; have h := ho1; cases h; exact hb⟩) rfl (.cons (.tmp rfl) .nil) (.refl _) trivial trivial
        · replace h := ite_neg_some c17 h
          refine .cFb rfl c17 ?_
          refine .skip (Ok.on ?_)
          refine .region (.mv rfl <| .ar rfl rfl rfl <| .asg rfl <| .nil) rfl (fun _ _ hs => ⟨(IntKind.i64.wrap (v7 - 1)), (Option.some.inj h).symm, hs.sub ⟨⟨_, rfl, .refl _⟩, ⟨_, rfl, .refl _⟩, ⟨_, rfl, .refl _⟩, trivial⟩ trivial rfl rfl⟩)
      · replace h := ite_neg_some c12 h
        refine .cFb rfl c12 ?_
        refine .exit (fun a w hs => ⟨_, (Option.some.inj h).symm, fun e => by subst e; have h := ho2; exact blk_exit (⟨(), (Option.some.inj h).symm, hs.sub trivial trivial rfl rfl⟩)⟩)
    · rintro ⟨⟩ rfl
      show Ok PP _ [] [] _ _
      refine .reg (.asg rfl <| .nil) rfl ?_
      cases h
      refine .retG (fun _ _ hb => hb) rfl (.cons (.tmp rfl) .nil) (.refl _) trivial trivial
def m_r_plus_l1 (a1 : List Int) (a2 : List Int) (v5 : Int) (v6 : Int) (v7 : List Int) : Option (St (Int × Int × (List Int)) (List Int)) := ((if (decide (v6 < (a1.length : Int))) = true then some (Ex.brk ()) else (if (decide (v6 < (a2.length : Int))) = true then some (Ex.brk ()) else (if (decide (v5 > 0)) = true then some (Ex.brk ()) else some (Ex.ret ()))))).bind fun o12 => (match o12 with | Ex.brk () => ((if (decide (v6 < (a1.length : Int))) = true then (ix a1 v6).bind fun v20 => some ((IntKind.i64.wrap (v5 + v20))) else some (v5))).bind fun v22 => ((if (decide (v6 < (a2.length : Int))) = true then (ix a2 v6).bind fun v26 => some ((IntKind.i64.wrap (v22 + v26))) else some (v22))).bind fun v28 => must ((v7.length + ([(Int.tmod v28 10000)]).length) * 8 ≤ 140737488355328 ∧ v7.length + ([(Int.tmod v28 10000)]).length ≤ 9223372036854775807) (some (St.next ((IntKind.i64.wrap (Int.tdiv v28 10000)), (IntKind.i64.wrap (v6 + 1)), (v7 ++ [(Int.tmod v28 10000)])))) | Ex.ret () => some (St.done v7))
def m_r_plus (a1 : List Int) (a2 : List Int) : Option (List Int) := ((Loop (fun (s : Int × Int × (List Int)) => m_r_plus_l1 a1 a2 s.1 s.2.1 s.2.2) (0, 0, [])).bind fun v30 => some (v30)).bind fun v31 => some v31
theorem C_r_plus {a1 : List Int} {a2 : List Int} {r32 : List Int} (h : m_r_plus a1 a2 = some r32) : CtrG PP 217 [] [slcE (Enc.int .i64) a1, slcE (Enc.int .i64) a2] [] (slcE (Enc.int .i64) r32) := by
  unfold m_r_plus at h
  refine .of Go.Proofs.Tryz.func217 rfl (by kernel_rfl) rfl rfl rfl rfl rfl rfl (fun A w0 L b => ?_)
  show Ok PP _ [(0, slcE (Enc.int .i64) a1), (1, slcE (Enc.int .i64) a2)] [] _ _
  refine .reg (.asg rfl <| .nil) rfl ?_
  refine .reg (.asg rfl <| .nil) rfl ?_
  refine .reg (.asg rfl <| .nil) rfl ?_
  obtain ⟨v31, hp4, h⟩ := bind_some h
  refine .cutX (fun i => v31 = i) (fun (i : (List Int)) => [(5, D.own 2000005)]) (fun (i : (List Int)) => [(2000005, rowE (Enc.int .i64) 3 i)]) ?_ ?_
  · have ho1 := h
    clear h
    have h := hp4
    clear hp4
    refine .reg (.asg rfl <| .nil) rfl ?_
    refine .nilE (Enc.int .i64) 5 2000005 3 rfl rfl ?_
    obtain ⟨o8, hl9, h⟩ := bind_some h
    have ho2 := h
    clear h
    refine .block (.loopL (fun (s : Int × Int × (List Int)) => [(0, slcE (Enc.int .i64) a1), (1, slcE (Enc.int .i64) a2), (5, D.own 2000005), (6, D.int .i64 s.1), (7, D.int .i64 s.2.1)]) (fun (s : Int × Int × (List Int)) => [(2000005, rowE (Enc.int .i64) 3 s.2.2)]) hl9 ⟨⟨_, rfl, .refl _⟩, ⟨_, rfl, .refl _⟩, ⟨_, rfl, .refl _⟩, ⟨_, rfl, .refl _⟩, ⟨_, rfl, .refl _⟩, trivial⟩ ⟨⟨_, rfl, .refl _⟩, trivial⟩ rfl rfl ?_)
    rintro ⟨v5, v6, v7⟩ st10 hb11
    have h : m_r_plus_l1 a1 a2 v5 v6 v7 = some st10 := hb11
    clear hb11
    unfold m_r_plus_l1 at h
    show Ok PP _ [(0, slcE (Enc.int .i64) a1), (1, slcE (Enc.int .i64) a2), (5, D.own 2000005), (6, D.int .i64 v5), (7, D.int .i64 v6)] [(2000005, rowE (Enc.int .i64) 3 v7)] _ _
    obtain ⟨o12, hp13, h⟩ := bind_some h
    refine .cutX (fun i => o12 = Ex.brk i) (fun (i : Unit) => [(0, slcE (Enc.int .i64) a1), (1, slcE (Enc.int .i64) a2), (5, D.own 2000005), (6, D.int .i64 v5), (7, D.int .i64 v6)]) (fun (i : Unit) => [(2000005, rowE (Enc.int .i64) 3 v7)]) ?_ ?_
    · have ho3 := h
      clear h
      have h := hp13
      clear hp13
      by_cases c14 : (decide (v6 < (a1.length : Int))) = true
      · replace h := ite_pos_some c14 h
        refine .reg (.mv rfl <| .mv rfl <| .lnE rfl is_Lint <| .cm rfl rfl rfl <| .mv rfl <| .gNf rfl rfl rfl c14 <| .gNf rfl rfl rfl c14 <| .gNf rfl rfl rfl c14 <| .gNf rfl rfl rfl c14 <| .pkTb rfl c14 rfl <| .mv rfl <| .gNf rfl rfl rfl rfl <| .gNf rfl rfl rfl rfl <| .pkTb rfl rfl rfl <| .nil) rfl ?_
        refine .cTb rfl rfl ?_
        refine .skip (fun _ _ hs => ⟨(), (Option.some.inj h).symm, hs.sub ⟨⟨_, rfl, .refl _⟩, ⟨_, rfl, .refl _⟩, ⟨_, rfl, .refl _⟩, ⟨_, rfl, .refl _⟩, ⟨_, rfl, .refl _⟩, trivial⟩ ⟨⟨_, rfl, .refl _⟩, trivial⟩ rfl rfl⟩)
      · replace h := ite_neg_some c14 h
        by_cases c15 : (decide (v6 < (a2.length : Int))) = true
        · replace h := ite_pos_some c15 h
          refine .reg (.mv rfl <| .mv rfl <| .lnE rfl is_Lint <| .cm rfl rfl rfl <| .mv rfl <| .gYf rfl rfl rfl c14 <| .mv rfl <| .gYf rfl rfl rfl c14 <| .mv rfl <| .gYf rfl rfl rfl c14 <| .lnE rfl is_Lint <| .gYf rfl rfl rfl c14 <| .cm rfl rfl rfl <| .pkFb rfl c14 rfl <| .mv rfl <| .gNf rfl rfl rfl c15 <| .gNf rfl rfl rfl c15 <| .pkTb rfl c15 rfl <| .nil) rfl ?_
          refine .cTb rfl rfl ?_
          refine .skip (fun _ _ hs => ⟨(), (Option.some.inj h).symm, hs.sub ⟨⟨_, rfl, .refl _⟩, ⟨_, rfl, .refl _⟩, ⟨_, rfl, .refl _⟩, ⟨_, rfl, .refl _⟩, ⟨_, rfl, .refl _⟩, trivial⟩ ⟨⟨_, rfl, .refl _⟩, trivial⟩ rfl rfl⟩)
        · replace h := ite_neg_some c15 h
          refine .reg (.mv rfl <| .mv rfl <| .lnE rfl is_Lint <| .cm rfl rfl rfl <| .mv rfl <| .gYf rfl rfl rfl c14 <| .mv rfl <| .gYf rfl rfl rfl c14 <| .mv rfl <| .gYf rfl rfl rfl c14 <| .lnE rfl is_Lint <| .gYf rfl rfl rfl c14 <| .cm rfl rfl rfl <| .pkFb rfl c14 rfl <| .mv rfl <| .gYf rfl rfl rfl c15 <| .mv rfl <| .gYf rfl rfl rfl c15 <| .cm rfl rfl rfl <| .pkFb rfl c15 rfl <| .nil) rfl ?_
          by_cases c16 : (decide (v5 > 0)) = true
          · replace h := ite_pos_some c16 h
            refine .cTb rfl c16 ?_
            refine .skip (fun _ _ hs => ⟨(), (Option.some.inj h).symm, hs.sub ⟨⟨_, rfl, .refl _⟩, ⟨_, rfl, .refl _⟩, ⟨_, rfl, .refl _⟩, ⟨_, rfl, .refl _⟩, ⟨_, rfl, .refl _⟩, trivial⟩ ⟨⟨_, rfl, .refl _⟩, trivial⟩ rfl rfl⟩)
          · replace h := ite_neg_some c16 h
            refine .cFb rfl c16 ?_
            cases h
            have h := ho3
            clear ho3
            refine .exit (fun a w hs => ⟨_, (Option.some.inj h).symm, fun e => by subst e; have h := ho2; exact blk_exit (⟨v7, (Option.some.inj h).symm, hs.sub ⟨⟨_, rfl, .refl _⟩, trivial⟩ ⟨⟨_, rfl, .refl _⟩, trivial⟩ rfl rfl⟩)⟩)
    · rintro ⟨⟩ rfl
      show Ok PP _ [(0, slcE (Enc.int .i64) a1), (1, slcE (Enc.int .i64) a2), (5, D.own 2000005), (6, D.int .i64 v5), (7, D.int .i64 v6)] [(2000005, rowE (Enc.int .i64) 3 v7)] _ _
      refine .sq ?_
      refine .block ?_
      obtain ⟨v22, hp18, h⟩ := bind_some h
      refine .cutX (fun i => v22 = i) (fun (i : Int) => [(0, slcE (Enc.int .i64) a1), (1, slcE (Enc.int .i64) a2), (5, D.own 2000005), (6, D.int .i64 i), (7, D.int .i64 v6)]) (fun (i : Int) => [(2000005, rowE (Enc.int .i64) 3 v7)]) ?_ ?_
      · have ho3 := h
        clear h
        have h := hp18
        clear hp18
        refine .reg (.mv rfl <| .mv rfl <| .lnE rfl is_Lint <| .cm rfl rfl rfl <| .nil) rfl ?_
        by_cases c19 : (decide (v6 < (a1.length : Int))) = true
        · replace h := ite_pos_some c19 h
          refine .cTb rfl c19 ?_
          obtain ⟨v20, e21, h⟩ := bind_some h
          refine .region (.mv rfl <| .mv rfl <| .mv rfl <| .ixE rfl rfl se_Lint (ix_some e21).1 (ix_some e21).2 <| .lp1 rfl ly_int <| .ar rfl rfl rfl <| .asg rfl <| .nil) rfl (fun _ _ hs => ⟨(IntKind.i64.wrap (v5 + v20)), (Option.some.inj h).symm, hs.sub ⟨⟨_, rfl, .refl _⟩, ⟨_, rfl, .refl _⟩, ⟨_, rfl, .refl _⟩, ⟨_, rfl, .refl _⟩, ⟨_, rfl, .refl _⟩, trivial⟩ ⟨⟨_, rfl, .refl _⟩, trivial⟩ rfl rfl⟩)
        · replace h := ite_neg_some c19 h
          refine .cFb rfl c19 ?_
          refine .skip (fun _ _ hs => ⟨v5, (Option.some.inj h).symm, hs.sub ⟨⟨_, rfl, .refl _⟩, ⟨_, rfl, .refl _⟩, ⟨_, rfl, .refl _⟩, ⟨_, rfl, .refl _⟩, ⟨_, rfl, .refl _⟩, trivial⟩ ⟨⟨_, rfl, .refl _⟩, trivial⟩ rfl rfl⟩)
      · rintro _ rfl
        show Ok PP _ [(0, slcE (Enc.int .i64) a1), (1, slcE (Enc.int .i64) a2), (5, D.own 2000005), (6, D.int .i64 v22), (7, D.int .i64 v6)] [(2000005, rowE (Enc.int .i64) 3 v7)] _ _
        obtain ⟨v28, hp24, h⟩ := bind_some h
        refine .cutX (fun i => v28 = i) (fun (i : Int) => [(0, slcE (Enc.int .i64) a1), (1, slcE (Enc.int .i64) a2), (5, D.own 2000005), (6, D.int .i64 i), (7, D.int .i64 v6)]) (fun (i : Int) => [(2000005, rowE (Enc.int .i64) 3 v7)]) ?_ ?_
        · have ho3 := h
          clear h
          have h := hp24
          clear hp24
          refine .reg (.mv rfl <| .mv rfl <| .lnE rfl is_Lint <| .cm rfl rfl rfl <| .nil) rfl ?_
          by_cases c25 : (decide (v6 < (a2.length : Int))) = true
          · replace h := ite_pos_some c25 h
            refine .cTb rfl c25 ?_
            obtain ⟨v26, e27, h⟩ := bind_some h
            refine .region (.mv rfl <| .mv rfl <| .mv rfl <| .ixE rfl rfl se_Lint (ix_some e27).1 (ix_some e27).2 <| .lp1 rfl ly_int <| .ar rfl rfl rfl <| .asg rfl <| .nil) rfl (fun _ _ hs => ⟨(IntKind.i64.wrap (v22 + v26)), (Option.some.inj h).symm, hs.sub ⟨⟨_, rfl, .refl _⟩, ⟨_, rfl, .refl _⟩, ⟨_, rfl, .refl _⟩, ⟨_, rfl, .refl _⟩, ⟨_, rfl, .refl _⟩, trivial⟩ ⟨⟨_, rfl, .refl _⟩, trivial⟩ rfl rfl⟩)
          · replace h := ite_neg_some c25 h
            refine .cFb rfl c25 ?_
            refine .skip (fun _ _ hs => ⟨v22, (Option.some.inj h).symm, hs.sub ⟨⟨_, rfl, .refl _⟩, ⟨_, rfl, .refl _⟩, ⟨_, rfl, .refl _⟩, ⟨_, rfl, .refl _⟩, ⟨_, rfl, .refl _⟩, trivial⟩ ⟨⟨_, rfl, .refl _⟩, trivial⟩ rfl rfl⟩)
        · rintro _ rfl
          show Ok PP _ [(0, slcE (Enc.int .i64) a1), (1, slcE (Enc.int .i64) a2), (5, D.own 2000005), (6, D.int .i64 v28), (7, D.int .i64 v6)] [(2000005, rowE (Enc.int .i64) 3 v7)] _ _
          refine .sl 5 rfl rfl rfl ?_
          obtain ⟨k29, h⟩ := must_some h
          refine .reg (.mv rfl <| .mv rfl <| .ar rfl rfl (irem (by decide)) <| .blQ (e := (Enc.int .i64)) [(Int.tmod v28 10000)] [(0, _, D.int .i64 (Int.tmod v28 10000), [D.int .i64 (Int.tmod v28 10000)])] mk_Lint rfl rfl rfl ⟨rfl, rfl, .one rfl, rfl, trivial⟩ ⟨rfl, trivial⟩ rfl rfl <| .apD (ys := [(Int.tmod v28 10000)]) rfl .sl rfl (.refl _) rfl mk_Lint rfl k29.1 k29.2 rfl <| .asg rfl <| .nil) rfl ?_
          refine .region (.mv rfl <| .ar rfl rfl (iquo (by decide)) <| .asg rfl <| .nil) rfl (Ok.on ?_)
          refine .region (.mv rfl <| .ar rfl rfl rfl <| .asg rfl <| .nil) rfl (fun _ _ hs => ⟨((IntKind.i64.wrap (Int.tdiv v28 10000)), (IntKind.i64.wrap (v6 + 1)), (v7 ++ [(Int.tmod v28 10000)])), (Option.some.inj h).symm, hs.subR (fun r => match r with | 2000005 => 48 | r => r) ⟨⟨_, rfl, .refl rfl⟩, ⟨_, rfl, .refl rfl⟩, ⟨_, rfl, .own (r := 2000005)⟩, ⟨_, rfl, .refl rfl⟩, ⟨_, rfl, .refl rfl⟩, trivial⟩ ⟨⟨_, rfl, .refl rfl⟩, trivial⟩ rfl rfl rfl⟩)
  · rintro _ rfl
    show Ok PP _ [(5, D.own 2000005)] [(2000005, rowE (Enc.int .i64) 3 v31)] _ _
    refine .sl 5 rfl rfl rfl ?_
    refine .reg (.mv rfl <| .asg rfl <| .nil) rfl ?_
    refine .leT 4 (.own 2000005) rfl .sl ?_
    refine .giveE 4 rfl rfl rfl ?_
    cases h
    refine .retG (fun _ _ hb => hb) rfl (.cons (.tmp rfl) .nil) (.refl _) trivial trivial
def m_r_minus_l1 (a1 : List Int) (a2 : List Int) (v5 : Int) (v6 : Int) (v7 : List Int) : Option (St (Int × Int × (List Int)) (List Int)) := (if (decide (v6 < (a1.length : Int))) = true then (ix a1 v6).bind fun v13 => ((if (decide (v6 < (a2.length : Int))) = true then (ix a2 v6).bind fun v18 => some ((IntKind.i64.wrap ((IntKind.i64.wrap (v13 - v5)) - v18))) else some ((IntKind.i64.wrap (v13 - v5))))).bind fun v20 => ((if (decide (v20 < 0)) = true then some ((1, (IntKind.i64.wrap (v20 + 10000)))) else some ((0, v20)))).bind fun (v24, v25) => must ((v7.length + ([v25]).length) * 8 ≤ 140737488355328 ∧ v7.length + ([v25]).length ≤ 9223372036854775807) (some (St.next (v24, (IntKind.i64.wrap (v6 + 1)), (v7 ++ [v25])))) else some (St.done v7))
def m_r_minus (a1 : List Int) (a2 : List Int) : Option (List Int) := ((Loop (fun (s : Int × Int × (List Int)) => m_r_minus_l1 a1 a2 s.1 s.2.1 s.2.2) (0, 0, [])).bind fun v27 => some (v27)).bind fun v28 => (m_r_trim v28).bind fun v29 => some v29
theorem C_r_minus {a1 : List Int} {a2 : List Int} {r31 : List Int} (h : m_r_minus a1 a2 = some r31) : CtrG PP 219 [] [slcE (Enc.int .i64) a1, slcE (Enc.int .i64) a2] [] (slcE (Enc.int .i64) r31) := by
  unfold m_r_minus at h
  refine .of Go.Proofs.Tryz.func219 rfl (by kernel_rfl) rfl rfl rfl rfl rfl rfl (fun A w0 L b => ?_)
  show Ok PP _ [(0, slcE (Enc.int .i64) a1), (1, slcE (Enc.int .i64) a2)] [] _ _
  refine .reg (.asg rfl <| .nil) rfl ?_
  refine .reg (.asg rfl <| .nil) rfl ?_
  refine .reg (.asg rfl <| .nil) rfl ?_
  obtain ⟨v28, hp4, h⟩ := bind_some h
  refine .cutX (fun i => v28 = i) (fun (i : (List Int)) => [(5, D.own 2000005)]) (fun (i : (List Int)) => [(2000005, rowE (Enc.int .i64) 3 i)]) ?_ ?_
  · have ho1 := h
    clear h
    have h := hp4
    clear hp4
    refine .reg (.asg rfl <| .nil) rfl ?_
    refine .nilE (Enc.int .i64) 5 2000005 3 rfl rfl ?_
    obtain ⟨o8, hl9, h⟩ := bind_some h
    have ho2 := h
    clear h
    refine .block (.loopL (fun (s : Int × Int × (List Int)) => [(0, slcE (Enc.int .i64) a1), (1, slcE (Enc.int .i64) a2), (5, D.own 2000005), (6, D.int .i64 s.1), (7, D.int .i64 s.2.1)]) (fun (s : Int × Int × (List Int)) => [(2000005, rowE (Enc.int .i64) 3 s.2.2)]) hl9 ⟨⟨_, rfl, .refl _⟩, ⟨_, rfl, .refl _⟩, ⟨_, rfl, .refl _⟩, ⟨_, rfl, .refl _⟩, ⟨_, rfl, .refl _⟩, trivial⟩ ⟨⟨_, rfl, .refl _⟩, trivial⟩ rfl rfl ?_)
    rintro ⟨v5, v6, v7⟩ st10 hb11
    have h : m_r_minus_l1 a1 a2 v5 v6 v7 = some st10 := hb11
    clear hb11
    unfold m_r_minus_l1 at h
    show Ok PP _ [(0, slcE (Enc.int .i64) a1), (1, slcE (Enc.int .i64) a2), (5, D.own 2000005), (6, D.int .i64 v5), (7, D.int .i64 v6)] [(2000005, rowE (Enc.int .i64) 3 v7)] _ _
    refine .sq ?_
    refine .reg (.mv rfl <| .mv rfl <| .lnE rfl is_Lint <| .cm rfl rfl rfl <| .nil) rfl ?_
    by_cases c12 : (decide (v6 < (a1.length : Int))) = true
    · replace h := ite_pos_some c12 h
      refine .cTb rfl c12 ?_
      refine .skip (Ok.on ?_)
      refine .sq ?_
      refine .block ?_
      obtain ⟨v13, e14, h⟩ := bind_some h
      refine .reg (.mv rfl <| .mv rfl <| .ixE rfl rfl se_Lint (ix_some e14).1 (ix_some e14).2 <| .lp1 rfl ly_int <| .mv rfl <| .ar rfl rfl rfl <| .asg rfl <| .nil) rfl ?_
      obtain ⟨v20, hp16, h⟩ := bind_some h
      refine .cutX (fun i => v20 = i) (fun (i : Int) => [(0, slcE (Enc.int .i64) a1), (1, slcE (Enc.int .i64) a2), (5, D.own 2000005), (7, D.int .i64 v6), (8, D.int .i64 i)]) (fun (i : Int) => [(2000005, rowE (Enc.int .i64) 3 v7)]) ?_ ?_
      · have ho3 := h
        clear h
        have h := hp16
        clear hp16
        refine .reg (.mv rfl <| .mv rfl <| .lnE rfl is_Lint <| .cm rfl rfl rfl <| .nil) rfl ?_
        by_cases c17 : (decide (v6 < (a2.length : Int))) = true
        · replace h := ite_pos_some c17 h
          refine .cTb rfl c17 ?_
          obtain ⟨v18, e19, h⟩ := bind_some h
          refine .region (.mv rfl <| .mv rfl <| .mv rfl <| .ixE rfl rfl se_Lint (ix_some e19).1 (ix_some e19).2 <| .lp1 rfl ly_int <| .ar rfl rfl rfl <| .asg rfl <| .nil) rfl (fun _ _ hs => ⟨(IntKind.i64.wrap ((IntKind.i64.wrap (v13 - v5)) - v18)), (Option.some.inj h).symm, hs.sub ⟨⟨_, rfl, .refl _⟩, ⟨_, rfl, .refl _⟩, ⟨_, rfl, .refl _⟩, ⟨_, rfl, .refl _⟩, ⟨_, rfl, .refl _⟩, trivial⟩ ⟨⟨_, rfl, .refl _⟩, trivial⟩ rfl rfl⟩)
        · replace h := ite_neg_some c17 h
          refine .cFb rfl c17 ?_
          refine .skip (fun _ _ hs => ⟨(IntKind.i64.wrap (v13 - v5)), (Option.some.inj h).symm, hs.sub ⟨⟨_, rfl, .refl _⟩, ⟨_, rfl, .refl _⟩, ⟨_, rfl, .refl _⟩, ⟨_, rfl, .refl _⟩, ⟨_, rfl, .refl _⟩, trivial⟩ ⟨⟨_, rfl, .refl _⟩, trivial⟩ rfl rfl⟩)
      · rintro _ rfl
        show Ok PP _ [(0, slcE (Enc.int .i64) a1), (1, slcE (Enc.int .i64) a2), (5, D.own 2000005), (7, D.int .i64 v6), (8, D.int .i64 v20)] [(2000005, rowE (Enc.int .i64) 3 v7)] _ _
        refine .reg (.asg rfl <| .nil) rfl ?_
        obtain ⟨o21, hp22, h⟩ := bind_some h
        refine .cutX (fun i => o21 = i) (fun (i : Int × Int) => [(0, slcE (Enc.int .i64) a1), (1, slcE (Enc.int .i64) a2), (5, D.own 2000005), (6, D.int .i64 i.1), (7, D.int .i64 v6), (8, D.int .i64 i.2)]) (fun (i : Int × Int) => [(2000005, rowE (Enc.int .i64) 3 v7)]) ?_ ?_
        · have ho3 := h
          clear h
          have h := hp22
          clear hp22
          refine .reg (.mv rfl <| .cm rfl rfl rfl <| .nil) rfl ?_
          by_cases c23 : (decide (v20 < 0)) = true
          · replace h := ite_pos_some c23 h
            refine .cTb rfl c23 ?_
            refine .reg (.mv rfl <| .ar rfl rfl rfl <| .asg rfl <| .nil) rfl ?_
            refine .region (.asg rfl <| .nil) rfl (fun _ _ hs => ⟨(1, (IntKind.i64.wrap (v20 + 10000))), (Option.some.inj h).symm, hs.sub ⟨⟨_, rfl, .refl _⟩, ⟨_, rfl, .refl _⟩, ⟨_, rfl, .refl _⟩, ⟨_, rfl, .refl _⟩, ⟨_, rfl, .refl _⟩, ⟨_, rfl, .refl _⟩, trivial⟩ ⟨⟨_, rfl, .refl _⟩, trivial⟩ rfl rfl⟩)
          · replace h := ite_neg_some c23 h
            refine .cFb rfl c23 ?_
            refine .skip (fun _ _ hs => ⟨(0, v20), (Option.some.inj h).symm, hs.sub ⟨⟨_, rfl, .refl _⟩, ⟨_, rfl, .refl _⟩, ⟨_, rfl, .refl _⟩, ⟨_, rfl, .refl _⟩, ⟨_, rfl, .refl _⟩, ⟨_, rfl, .refl _⟩, trivial⟩ ⟨⟨_, rfl, .refl _⟩, trivial⟩ rfl rfl⟩)
        · rintro ⟨v24, v25⟩ rfl
          show Ok PP _ [(0, slcE (Enc.int .i64) a1), (1, slcE (Enc.int .i64) a2), (5, D.own 2000005), (6, D.int .i64 v24), (7, D.int .i64 v6), (8, D.int .i64 v25)] [(2000005, rowE (Enc.int .i64) 3 v7)] _ _
          refine .sl 5 rfl rfl rfl ?_
          obtain ⟨k26, h⟩ := must_some h
          refine .region (.mv rfl <| .mv rfl <| .blQ (e := (Enc.int .i64)) [v25] [(0, _, D.int .i64 v25, [D.int .i64 v25])] mk_Lint rfl rfl rfl ⟨rfl, rfl, .one rfl, rfl, trivial⟩ ⟨rfl, trivial⟩ rfl rfl <| .apD (ys := [v25]) rfl .sl rfl (.refl _) rfl mk_Lint rfl k26.1 k26.2 rfl <| .asg rfl <| .nil) rfl (Ok.on ?_)
          refine .region (.mv rfl <| .ar rfl rfl rfl <| .asg rfl <| .nil) rfl (fun _ _ hs => ⟨(v24, (IntKind.i64.wrap (v6 + 1)), (v7 ++ [v25])), (Option.some.inj h).symm, hs.subR (fun r => match r with | 2000005 => 38 | r => r) ⟨⟨_, rfl, .refl rfl⟩, ⟨_, rfl, .refl rfl⟩, ⟨_, rfl, .own (r := 2000005)⟩, ⟨_, rfl, .refl rfl⟩, ⟨_, rfl, .refl rfl⟩, trivial⟩ ⟨⟨_, rfl, .refl rfl⟩, trivial⟩ rfl rfl rfl⟩)
    · replace h := ite_neg_some c12 h
      refine .cFb rfl c12 ?_
      refine .exit (fun a w hs => ⟨_, (Option.some.inj h).symm, fun e => by subst e; have h := ho2; exact blk_exit (⟨v7, (Option.some.inj h).symm, hs.sub ⟨⟨_, rfl, .refl _⟩, trivial⟩ ⟨⟨_, rfl, .refl _⟩, trivial⟩ rfl rfl⟩)⟩)
  · rintro _ rfl
    show Ok PP _ [(5, D.own 2000005)] [(2000005, rowE (Enc.int .i64) 3 v28)] _ _
    refine .sl 5 rfl rfl rfl ?_
    refine .leT 5 (.own 2000005) rfl .sl ?_
    refine .giveE 5 rfl rfl rfl ?_
    obtain ⟨v29, e30, h⟩ := bind_some h
    refine .reg (.mv rfl <| .callG (C_r_trim e30) ⟨rfl, trivial⟩ trivial trivial <| .asg rfl <| .nil) rfl ?_
    cases h
    refine .retG (fun _ _ hb => hb) rfl (.cons (.tmp rfl) .nil) (.refl _) trivial trivial
def m_r_times_l2 (a1 : List Int) (a2 : List Int) (v6 : Int) (v15 : Int) (v16 : Int) (v17 : List Int) : Option (St (Int × Int × (List Int)) (List Int)) := ((if (decide (v16 < (a2.length : Int))) = true then some (Ex.brk ()) else (if (decide (v15 > 0)) = true then some (Ex.brk ()) else some (Ex.ret ())))).bind fun o22 => (match o22 with | Ex.brk () => (ix v17 (IntKind.i64.wrap (v6 + v16))).bind fun v26 => ((if (decide (v16 < (a2.length : Int))) = true then (ix a1 v6).bind fun v31 => (ix a2 v16).bind fun v33 => some ((IntKind.i64.wrap ((IntKind.i64.wrap (v26 + v15)) + (IntKind.i64.wrap (v31 * v33))))) else some ((IntKind.i64.wrap (v26 + v15))))).bind fun v35 => (ix v17 (IntKind.i64.wrap (v6 + v16))).bind fun v36 => some (St.next ((IntKind.i64.wrap (Int.tdiv v35 10000)), (IntKind.i64.wrap (v16 + 1)), (v17.set (IntKind.i64.wrap (v6 + v16)).toNat (Int.tmod v35 10000)))) | Ex.ret () => some (St.done v17))
def m_r_times_l1 (a1 : List Int) (a2 : List Int) (v6 : Int) (v7 : List Int) : Option (St (Int × (List Int)) (List Int)) := (if (decide (v6 < (a1.length : Int))) = true then ((Loop (fun (s : Int × Int × (List Int)) => m_r_times_l2 a1 a2 v6 s.1 s.2.1 s.2.2) (0, 0, v7)).bind fun v38 => some (v38)).bind fun v39 => some (St.next ((IntKind.i64.wrap (v6 + 1)), v39)) else some (St.done v7))
def m_r_times (a1 : List Int) (a2 : List Int) : Option (List Int) := must ((0 : Int) ≤ (IntKind.i64.wrap ((a1.length : Int) + (a2.length : Int))) ∧ (8 : Int) * (IntKind.i64.wrap ((a1.length : Int) + (a2.length : Int))) ≤ 281474976710656 ∧ ((IntKind.i64.wrap ((a1.length : Int) + (a2.length : Int))) : Int) ≤ 9223372036854775807) (((Loop (fun (s : Int × (List Int)) => m_r_times_l1 a1 a2 s.1 s.2) (0, (List.replicate (IntKind.i64.wrap ((a1.length : Int) + (a2.length : Int))).toNat 0))).bind fun v40 => some (v40)).bind fun v41 => (m_r_trim v41).bind fun v42 => some v42)
theorem C_r_times {a1 : List Int} {a2 : List Int} {r44 : List Int} (h : m_r_times a1 a2 = some r44) : CtrG PP 216 [] [slcE (Enc.int .i64) a1, slcE (Enc.int .i64) a2] [] (slcE (Enc.int .i64) r44) := by
  unfold m_r_times at h
  refine .of Go.Proofs.Tryz.func216 rfl (by kernel_rfl) rfl rfl rfl rfl rfl rfl (fun A w0 L b => ?_)
  show Ok PP _ [(0, slcE (Enc.int .i64) a1), (1, slcE (Enc.int .i64) a2)] [] _ _
  refine .reg (.asg rfl <| .nil) rfl ?_
  obtain ⟨k3, h⟩ := must_some h
  refine .reg (.mv rfl <| .lnE rfl is_Lint <| .mv rfl <| .lnE rfl is_Lint <| .ar rfl rfl rfl <| .mkE (e := (Enc.int .i64)) 0 rfl rfl mk_Lint rfl ⟨.refl _, trivial⟩ k3.1 k3.2.1 k3.2.2 rfl <| .asg rfl <| .nil) rfl ?_
  obtain ⟨v41, hp5, h⟩ := bind_some h
  refine .cutX (fun i => v41 = i) (fun (i : (List Int)) => [(5, D.own 15)]) (fun (i : (List Int)) => [(15, rowE (Enc.int .i64) 3 i)]) ?_ ?_
  · have ho1 := h
    clear h
    have h := hp5
    clear hp5
    refine .reg (.asg rfl <| .nil) rfl ?_
    obtain ⟨o8, hl9, h⟩ := bind_some h
    have ho2 := h
    clear h
    refine .block (.loopL (fun (s : Int × (List Int)) => [(0, slcE (Enc.int .i64) a1), (1, slcE (Enc.int .i64) a2), (5, D.own 15), (6, D.int .i64 s.1)]) (fun (s : Int × (List Int)) => [(15, rowE (Enc.int .i64) 3 s.2)]) hl9 ⟨⟨_, rfl, .refl _⟩, ⟨_, rfl, .refl _⟩, ⟨_, rfl, .refl _⟩, ⟨_, rfl, .refl _⟩, trivial⟩ ⟨⟨_, rfl, .refl _⟩, trivial⟩ rfl rfl ?_)
    rintro ⟨v6, v7⟩ st10 hb11
    have h : m_r_times_l1 a1 a2 v6 v7 = some st10 := hb11
    clear hb11
    unfold m_r_times_l1 at h
    show Ok PP _ [(0, slcE (Enc.int .i64) a1), (1, slcE (Enc.int .i64) a2), (5, D.own 15), (6, D.int .i64 v6)] [(15, rowE (Enc.int .i64) 3 v7)] _ _
    refine .sq ?_
    refine .reg (.mv rfl <| .mv rfl <| .lnE rfl is_Lint <| .cm rfl rfl rfl <| .nil) rfl ?_
    by_cases c12 : (decide (v6 < (a1.length : Int))) = true
    · replace h := ite_pos_some c12 h
      refine .cTb rfl c12 ?_
      refine .skip (Ok.on ?_)
      obtain ⟨v39, hp14, h⟩ := bind_some h
      refine .cutX (fun i => v39 = i) (fun (i : (List Int)) => [(0, slcE (Enc.int .i64) a1), (1, slcE (Enc.int .i64) a2), (5, D.own 15), (6, D.int .i64 v6)]) (fun (i : (List Int)) => [(15, rowE (Enc.int .i64) 3 i)]) ?_ ?_
      · have ho3 := h
        clear h
        have h := hp14
        clear hp14
        refine .block ?_
        refine .reg (.asg rfl <| .nil) rfl ?_
        refine .reg (.asg rfl <| .nil) rfl ?_
        obtain ⟨o18, hl19, h⟩ := bind_some h
        have ho4 := h
        clear h
        refine .block (.loopL (fun (s : Int × Int × (List Int)) => [(0, slcE (Enc.int .i64) a1), (1, slcE (Enc.int .i64) a2), (5, D.own 15), (6, D.int .i64 v6), (7, D.int .i64 s.1), (8, D.int .i64 s.2.1)]) (fun (s : Int × Int × (List Int)) => [(15, rowE (Enc.int .i64) 3 s.2.2)]) hl19 ⟨⟨_, rfl, .refl _⟩, ⟨_, rfl, .refl _⟩, ⟨_, rfl, .refl _⟩, ⟨_, rfl, .refl _⟩, ⟨_, rfl, .refl _⟩, ⟨_, rfl, .refl _⟩, trivial⟩ ⟨⟨_, rfl, .refl _⟩, trivial⟩ rfl rfl ?_)
        rintro ⟨v15, v16, v17⟩ st20 hb21
        have h : m_r_times_l2 a1 a2 v6 v15 v16 v17 = some st20 := hb21
        clear hb21
        unfold m_r_times_l2 at h
        show Ok PP _ [(0, slcE (Enc.int .i64) a1), (1, slcE (Enc.int .i64) a2), (5, D.own 15), (6, D.int .i64 v6), (7, D.int .i64 v15), (8, D.int .i64 v16)] [(15, rowE (Enc.int .i64) 3 v17)] _ _
        obtain ⟨o22, hp23, h⟩ := bind_some h
        refine .cutX (fun i => o22 = Ex.brk i) (fun (i : Unit) => [(0, slcE (Enc.int .i64) a1), (1, slcE (Enc.int .i64) a2), (5, D.own 15), (6, D.int .i64 v6), (7, D.int .i64 v15), (8, D.int .i64 v16)]) (fun (i : Unit) => [(15, rowE (Enc.int .i64) 3 v17)]) ?_ ?_
        · have ho5 := h
          clear h
          have h := hp23
          clear hp23
          by_cases c24 : (decide (v16 < (a2.length : Int))) = true
          · replace h := ite_pos_some c24 h
            refine .reg (.mv rfl <| .mv rfl <| .lnE rfl is_Lint <| .cm rfl rfl rfl <| .mv rfl <| .gNf rfl rfl rfl c24 <| .gNf rfl rfl rfl c24 <| .pkTb rfl c24 rfl <| .nil) rfl ?_
            refine .cTb rfl rfl ?_
            refine .skip (fun _ _ hs => ⟨(), (Option.some.inj h).symm, hs.sub ⟨⟨_, rfl, .refl _⟩, ⟨_, rfl, .refl _⟩, ⟨_, rfl, .refl _⟩, ⟨_, rfl, .refl _⟩, ⟨_, rfl, .refl _⟩, ⟨_, rfl, .refl _⟩, trivial⟩ ⟨⟨_, rfl, .refl _⟩, trivial⟩ rfl rfl⟩)
          · replace h := ite_neg_some c24 h
            refine .reg (.mv rfl <| .mv rfl <| .lnE rfl is_Lint <| .cm rfl rfl rfl <| .mv rfl <| .gYf rfl rfl rfl c24 <| .mv rfl <| .gYf rfl rfl rfl c24 <| .cm rfl rfl rfl <| .pkFb rfl c24 rfl <| .nil) rfl ?_
            by_cases c25 : (decide (v15 > 0)) = true
            · replace h := ite_pos_some c25 h
              refine .cTb rfl c25 ?_
              refine .skip (fun _ _ hs => ⟨(), (Option.some.inj h).symm, hs.sub ⟨⟨_, rfl, .refl _⟩, ⟨_, rfl, .refl _⟩, ⟨_, rfl, .refl _⟩, ⟨_, rfl, .refl _⟩, ⟨_, rfl, .refl _⟩, ⟨_, rfl, .refl _⟩, trivial⟩ ⟨⟨_, rfl, .refl _⟩, trivial⟩ rfl rfl⟩)
            · replace h := ite_neg_some c25 h
              refine .cFb rfl c25 ?_
              cases h
              have h := ho5
              clear ho5
              refine .exit (fun a w hs => ⟨_, (Option.some.inj h).symm, fun e => by subst e; have h := ho4; exact blk_exit (⟨v17, (Option.some.inj h).symm, hs.sub ⟨⟨_, rfl, .refl _⟩, ⟨_, rfl, .refl _⟩, ⟨_, rfl, .refl _⟩, ⟨_, rfl, .refl _⟩, trivial⟩ ⟨⟨_, rfl, .refl _⟩, trivial⟩ rfl rfl⟩)⟩)
        · rintro ⟨⟩ rfl
          show Ok PP _ [(0, slcE (Enc.int .i64) a1), (1, slcE (Enc.int .i64) a2), (5, D.own 15), (6, D.int .i64 v6), (7, D.int .i64 v15), (8, D.int .i64 v16)] [(15, rowE (Enc.int .i64) 3 v17)] _ _
          refine .sq ?_
          refine .block ?_
          refine .sl 5 rfl rfl rfl ?_
          obtain ⟨v26, e27, h⟩ := bind_some h
          refine .reg (.mv rfl <| .mv rfl <| .mv rfl <| .ar rfl rfl rfl <| .ixR rfl rfl se_Lint (ix_some e27).1 (by have := ix_lt e27; have := (ix_some e27).1; (try simp only [List.length_set] at *); omega) <| .lrE rfl rfl ly_int rfl (ix_some e27).2 rfl <| .mv rfl <| .ar rfl rfl rfl <| .asg rfl <| .nil) rfl ?_
          obtain ⟨v35, hp29, h⟩ := bind_some h
          refine .cutX (fun i => v35 = i) (fun (i : Int) => [(0, slcE (Enc.int .i64) a1), (1, slcE (Enc.int .i64) a2), (5, D.own 15), (6, D.int .i64 v6), (8, D.int .i64 v16), (9, D.int .i64 i)]) (fun (i : Int) => [(15, rowE (Enc.int .i64) 3 v17)]) ?_ ?_
          · have ho5 := h
            clear h
            have h := hp29
            clear hp29
            refine .reg (.mv rfl <| .mv rfl <| .lnE rfl is_Lint <| .cm rfl rfl rfl <| .nil) rfl ?_
            by_cases c30 : (decide (v16 < (a2.length : Int))) = true
            · replace h := ite_pos_some c30 h
              refine .cTb rfl c30 ?_
              obtain ⟨v31, e32, h⟩ := bind_some h
              obtain ⟨v33, e34, h⟩ := bind_some h
              refine .regionD hmix (.mv rfl <| .mv rfl <| .mv rfl <| .ixE rfl rfl se_Lint (ix_some e32).1 (ix_some e32).2 <| .lp1 rfl ly_int <| .mv rfl <| .mv rfl <| .ixE rfl rfl se_Lint (ix_some e34).1 (ix_some e34).2 <| .lp1 rfl ly_int <| .ar rfl rfl rfl <| .ar rfl rfl rfl <| .asg rfl <| .nil) rfl (by kernel_rfl) (fun _ _ hs => ⟨(IntKind.i64.wrap ((IntKind.i64.wrap (v26 + v15)) + (IntKind.i64.wrap (v31 * v33)))), (Option.some.inj h).symm, hs.sub ⟨⟨_, rfl, .refl _⟩, ⟨_, rfl, .refl _⟩, ⟨_, rfl, .sl⟩, ⟨_, rfl, .refl _⟩, ⟨_, rfl, .refl _⟩, ⟨_, rfl, .refl _⟩, trivial⟩ ⟨⟨_, rfl, .refl _⟩, trivial⟩ rfl rfl⟩)
            · replace h := ite_neg_some c30 h
              refine .cFb rfl c30 ?_
              refine .skip (fun _ _ hs => ⟨(IntKind.i64.wrap (v26 + v15)), (Option.some.inj h).symm, hs.sub ⟨⟨_, rfl, .refl _⟩, ⟨_, rfl, .refl _⟩, ⟨_, rfl, .sl⟩, ⟨_, rfl, .refl _⟩, ⟨_, rfl, .refl _⟩, ⟨_, rfl, .refl _⟩, trivial⟩ ⟨⟨_, rfl, .refl _⟩, trivial⟩ rfl rfl⟩)
          · rintro _ rfl
            show Ok PP _ [(0, slcE (Enc.int .i64) a1), (1, slcE (Enc.int .i64) a2), (5, D.own 15), (6, D.int .i64 v6), (8, D.int .i64 v16), (9, D.int .i64 v35)] [(15, rowE (Enc.int .i64) 3 v17)] _ _
            refine .sl 5 rfl rfl rfl ?_
            obtain ⟨v36, e37, h⟩ := bind_some h
            refine .reg (.mv rfl <| .mv rfl <| .mv rfl <| .ar rfl rfl rfl <| .mv rfl <| .ar rfl rfl (irem (by decide)) <| .ixR rfl rfl se_Lint (ix_some e37).1 (by have := ix_lt e37; have := (ix_some e37).1; (try simp only [List.length_set] at *); omega) <| .srE1 (Int.tmod v35 10000) rfl rfl rfl ly_int rfl rfl rfl rfl (ix_lt e37) <| .nil) rfl ?_
            refine .region (.mv rfl <| .ar rfl rfl (iquo (by decide)) <| .asg rfl <| .nil) rfl (Ok.on ?_)
            refine .region (.mv rfl <| .ar rfl rfl rfl <| .asg rfl <| .nil) rfl (fun _ _ hs => ⟨((IntKind.i64.wrap (Int.tdiv v35 10000)), (IntKind.i64.wrap (v16 + 1)), (v17.set (IntKind.i64.wrap (v6 + v16)).toNat (Int.tmod v35 10000))), (Option.some.inj h).symm, hs.sub ⟨⟨_, rfl, .refl _⟩, ⟨_, rfl, .refl _⟩, ⟨_, rfl, .sl⟩, ⟨_, rfl, .refl _⟩, ⟨_, rfl, .refl _⟩, ⟨_, rfl, .refl _⟩, trivial⟩ ⟨⟨_, rfl, .refl _⟩, trivial⟩ rfl rfl⟩)
      · rintro _ rfl
        show Ok PP _ [(0, slcE (Enc.int .i64) a1), (1, slcE (Enc.int .i64) a2), (5, D.own 15), (6, D.int .i64 v6)] [(15, rowE (Enc.int .i64) 3 v39)] _ _
        refine .region (.mv rfl <| .ar rfl rfl rfl <| .asg rfl <| .nil) rfl (fun _ _ hs => ⟨((IntKind.i64.wrap (v6 + 1)), v39), (Option.some.inj h).symm, hs.sub ⟨⟨_, rfl, .refl _⟩, ⟨_, rfl, .refl _⟩, ⟨_, rfl, .refl _⟩, ⟨_, rfl, .refl _⟩, trivial⟩ ⟨⟨_, rfl, .refl _⟩, trivial⟩ rfl rfl⟩)
    · replace h := ite_neg_some c12 h
      refine .cFb rfl c12 ?_
      refine .exit (fun a w hs => ⟨_, (Option.some.inj h).symm, fun e => by subst e; have h := ho2; exact blk_exit (⟨v7, (Option.some.inj h).symm, hs.sub ⟨⟨_, rfl, .refl _⟩, trivial⟩ ⟨⟨_, rfl, .refl _⟩, trivial⟩ rfl rfl⟩)⟩)
  · rintro _ rfl
    show Ok PP _ [(5, D.own 15)] [(15, rowE (Enc.int .i64) 3 v41)] _ _
    refine .sl 5 rfl rfl rfl ?_
    refine .leT 5 (.own 15) rfl .sl ?_
    refine .giveE 5 rfl rfl rfl ?_
    obtain ⟨v42, e43, h⟩ := bind_some h
    refine .reg (.mv rfl <| .callG (C_r_trim e43) ⟨rfl, trivial⟩ trivial trivial <| .asg rfl <| .nil) rfl ?_
    cases h
    refine .retG (fun _ _ hb => hb) rfl (.cons (.tmp rfl) .nil) (.refl _) trivial trivial
def m_r_top_l1 (a1 : List Int) (a2 : Int) (v5 : Int) (v6 : Int) : Option (St (Int × Int) Int) := (if (decide (v6 ≥ a2)) = true then (ix a1 v6).bind fun v12 => some (St.next ((IntKind.i64.wrap ((IntKind.i64.wrap (v5 * 10000)) + v12)), (IntKind.i64.wrap (v6 - 1)))) else some (St.done v5))
def m_r_top (a1 : List Int) (a2 : Int) : Option Int := ((Loop (fun (s : Int × Int) => m_r_top_l1 a1 a2 s.1 s.2) (0, (IntKind.i64.wrap ((a1.length : Int) - 1)))).bind fun v14 => some (v14)).bind fun v15 => some v15
theorem C_r_top {a1 : List Int} {a2 : Int} {r16 : Int} (h : m_r_top a1 a2 = some r16) : CtrG PP 250 [] [slcE (Enc.int .i64) a1, D.int .i64 a2] [] (D.int .i64 r16) := by
  unfold m_r_top at h
  refine .of Go.Proofs.Tryz.func250 rfl (by kernel_rfl) rfl rfl rfl rfl rfl rfl (fun A w0 L b => ?_)
  show Ok PP _ [(0, slcE (Enc.int .i64) a1), (1, D.int .i64 a2)] [] _ _
  refine .reg (.asg rfl <| .nil) rfl ?_
  refine .reg (.asg rfl <| .nil) rfl ?_
  obtain ⟨v15, hp4, h⟩ := bind_some h
  refine .cutX (fun i => v15 = i) (fun (i : Int) => [(5, D.int .i64 i)]) (fun (i : Int) => []) ?_ ?_
  · have ho1 := h
    clear h
    have h := hp4
    clear hp4
    refine .reg (.mv rfl <| .lnE rfl is_Lint <| .ar rfl rfl rfl <| .asg rfl <| .nil) rfl ?_
    obtain ⟨o7, hl8, h⟩ := bind_some h
    have ho2 := h
    clear h
    refine .block (.loopL (fun (s : Int × Int) => [(0, slcE (Enc.int .i64) a1), (1, D.int .i64 a2), (5, D.int .i64 s.1), (6, D.int .i64 s.2)]) (fun (s : Int × Int) => []) hl8 ⟨⟨_, rfl, .refl _⟩, ⟨_, rfl, .refl _⟩, ⟨_, rfl, .refl _⟩, ⟨_, rfl, .refl _⟩, trivial⟩ trivial rfl rfl ?_)
    rintro ⟨v5, v6⟩ st9 hb10
    have h : m_r_top_l1 a1 a2 v5 v6 = some st9 := hb10
    clear hb10
    unfold m_r_top_l1 at h
    show Ok PP _ [(0, slcE (Enc.int .i64) a1), (1, D.int .i64 a2), (5, D.int .i64 v5), (6, D.int .i64 v6)] [] _ _
    refine .sq ?_
    refine .reg (.mv rfl <| .mv rfl <| .cm rfl rfl rfl <| .nil) rfl ?_
    by_cases c11 : (decide (v6 ≥ a2)) = true
    · replace h := ite_pos_some c11 h
      refine .cTb rfl c11 ?_
      refine .skip (Ok.on ?_)
      refine .sq ?_
      refine .block ?_
      obtain ⟨v12, e13, h⟩ := bind_some h
      refine .region (.mv rfl <| .ar rfl rfl rfl <| .mv rfl <| .mv rfl <| .ixE rfl rfl se_Lint (ix_some e13).1 (ix_some e13).2 <| .lp1 rfl ly_int <| .ar rfl rfl rfl <| .asg rfl <| .nil) rfl (Ok.on ?_)
      refine .region (.mv rfl <| .ar rfl rfl rfl <| .asg rfl <| .nil) rfl (fun _ _ hs => ⟨((IntKind.i64.wrap ((IntKind.i64.wrap (v5 * 10000)) + v12)), (IntKind.i64.wrap (v6 - 1))), (Option.some.inj h).symm, hs.sub ⟨⟨_, rfl, .refl _⟩, ⟨_, rfl, .refl _⟩, ⟨_, rfl, .refl _⟩, ⟨_, rfl, .refl _⟩, trivial⟩ trivial rfl rfl⟩)
    · replace h := ite_neg_some c11 h
      refine .cFb rfl c11 ?_
      refine .exit (fun a w hs => ⟨_, (Option.some.inj h).symm, fun e => by subst e; have h := ho2; exact blk_exit (⟨v5, (Option.some.inj h).symm, hs.sub ⟨⟨_, rfl, .refl _⟩, trivial⟩ trivial rfl rfl⟩)⟩)
  · rintro _ rfl
    show Ok PP _ [(5, D.int .i64 v15)] [] _ _
    refine .reg (.mv rfl <| .asg rfl <| .nil) rfl ?_
    cases h
    refine .retG (fun _ _ hb => hb) rfl (.cons (.tmp rfl) .nil) (.refl _) trivial trivial
def m_r_over_l2 (a2 : List Int) (v41 : List Int) (v42 : Int) : Option (St ((List Int) × Int) ((List Int) × Int)) := (m_r_abs v41 a2).bind fun v47 => (if (decide (v47 ≥ 0)) = true then (m_r_minus v41 a2).bind fun v50 => some (St.next (v50, (IntKind.i64.wrap (v42 + 1)))) else some (St.done (v41, v42)))
def m_r_over_l1 (a1 : List Int) (a2 : List Int) (v6 : List Int) (v7 : Int) (v8 : List Int) : Option (St ((List Int) × Int × (List Int)) ((List Int) × (List Int))) := (if (decide (v7 ≥ 0)) = true then (ix a1 v7).bind fun v14 => must ((([v14]).length + v6.length) * 8 ≤ 140737488355328 ∧ ([v14]).length + v6.length ≤ 9223372036854775807) ((m_r_trim ([v14] ++ v6)).bind fun v17 => ((if (decide ((a2.length : Int) ≤ 3)) = true then (m_r_top v17 0).bind fun v22 => (m_r_top a2 0).bind fun v24 => must ((v24 : Int) ≠ 0) (some ((IntKind.i64.wrap (Int.tdiv v22 v24)))) else (if (decide ((v17.length : Int) ≥ (a2.length : Int))) = true then (m_r_top v17 (IntKind.i64.wrap ((a2.length : Int) - 3))).bind fun v28 => (m_r_top a2 (IntKind.i64.wrap ((a2.length : Int) - 3))).bind fun v30 => must (((IntKind.i64.wrap (v30 + 1)) : Int) ≠ 0) (some ((IntKind.i64.wrap (Int.tdiv v28 (IntKind.i64.wrap (v30 + 1)))))) else some (0)))).bind fun v33 => (m_r_ZInt v33).bind fun (v34, v35) => (m_r_times a2 v35).bind fun v37 => (m_r_minus v17 v37).bind fun v39 => (Loop (fun (s : (List Int) × Int) => m_r_over_l2 a2 s.1 s.2) (v39, v33)).bind fun (v52, v53) => (ix v8 v7).bind fun v54 => some (St.next (v52, (IntKind.i64.wrap (v7 - 1)), (v8.set v7.toNat v53)))) else some (St.done (v6, v8)))
def m_r_over (a1 : List Int) (a2 : List Int) : Option ((List Int) × (List Int)) := must ((0 : Int) ≤ (a1.length : Int) ∧ (8 : Int) * (a1.length : Int) ≤ 281474976710656 ∧ ((a1.length : Int) : Int) ≤ 9223372036854775807) (((Loop (fun (s : (List Int) × Int × (List Int)) => m_r_over_l1 a1 a2 s.1 s.2.1 s.2.2) ([], (IntKind.i64.wrap ((a1.length : Int) - 1)), (List.replicate (a1.length : Int).toNat 0))).bind fun (v56, v57) => some ((v56, v57))).bind fun (v58, v59) => (m_r_trim v59).bind fun v60 => some (v60, v58))
theorem C_r_over {a1 : List Int} {a2 : List Int} {r62 : List Int} {r63 : List Int} (h : m_r_over a1 a2 = some (r62, r63)) : CtrG PP 221 [] [slcE (Enc.int .i64) a1, slcE (Enc.int .i64) a2] [] (D.tup [slcE (Enc.int .i64) r62, slcE (Enc.int .i64) r63]) := by
  unfold m_r_over at h
  refine .of Go.Proofs.Tryz.func221 rfl (by kernel_rfl) rfl rfl rfl rfl rfl rfl (fun A w0 L b => ?_)
  show Ok PP _ [(0, slcE (Enc.int .i64) a1), (1, slcE (Enc.int .i64) a2)] [] _ _
  refine .reg (.asg rfl <| .asg rfl <| .nil) rfl ?_
  refine .reg (.asg rfl <| .nil) rfl ?_
  obtain ⟨k3, h⟩ := must_some h
  refine .reg (.mv rfl <| .lnE rfl is_Lint <| .mkE (e := (Enc.int .i64)) 0 rfl rfl mk_Lint rfl ⟨.refl _, trivial⟩ k3.1 k3.2.1 k3.2.2 rfl <| .asg rfl <| .nil) rfl ?_
  obtain ⟨o4, hp5, h⟩ := bind_some h
  refine .cutX (fun i => o4 = i) (fun (i : (List Int) × (List Int)) => [(6, slcE (Enc.int .i64) i.1), (7, D.own 12)]) (fun (i : (List Int) × (List Int)) => [(12, rowE (Enc.int .i64) 3 i.2)]) ?_ ?_
  · have ho1 := h
    clear h
    have h := hp5
    clear hp5
    refine .reg (.mv rfl <| .lnE rfl is_Lint <| .ar rfl rfl rfl <| .asg rfl <| .nil) rfl ?_
    obtain ⟨o9, hl10, h⟩ := bind_some h
    have ho2 := h
    clear h
    refine .block (.loopL (fun (s : (List Int) × Int × (List Int)) => [(0, slcE (Enc.int .i64) a1), (1, slcE (Enc.int .i64) a2), (6, slcE (Enc.int .i64) s.1), (7, D.own 12), (8, D.int .i64 s.2.1)]) (fun (s : (List Int) × Int × (List Int)) => [(12, rowE (Enc.int .i64) 3 s.2.2)]) hl10 ⟨⟨_, rfl, .refl _⟩, ⟨_, rfl, .refl _⟩, ⟨_, rfl, .nilE _⟩, ⟨_, rfl, .refl _⟩, ⟨_, rfl, .refl _⟩, trivial⟩ ⟨⟨_, rfl, .refl _⟩, trivial⟩ rfl rfl ?_)
    rintro ⟨v6, v7, v8⟩ st11 hb12
    have h : m_r_over_l1 a1 a2 v6 v7 v8 = some st11 := hb12
    clear hb12
    unfold m_r_over_l1 at h
    show Ok PP _ [(0, slcE (Enc.int .i64) a1), (1, slcE (Enc.int .i64) a2), (6, slcE (Enc.int .i64) v6), (7, D.own 12), (8, D.int .i64 v7)] [(12, rowE (Enc.int .i64) 3 v8)] _ _
    refine .sq ?_
    refine .reg (.mv rfl <| .cm rfl rfl rfl <| .nil) rfl ?_
    by_cases c13 : (decide (v7 ≥ 0)) = true
    · replace h := ite_pos_some c13 h
      refine .cTb rfl c13 ?_
      refine .skip (Ok.on ?_)
      refine .sq ?_
      refine .block ?_
      obtain ⟨v14, e15, h⟩ := bind_some h
      obtain ⟨k16, h⟩ := must_some h
      obtain ⟨v17, e18, h⟩ := bind_some h
      refine .reg (.mv rfl <| .mv rfl <| .ixE rfl rfl se_Lint (ix_some e15).1 (ix_some e15).2 <| .lp1 rfl ly_int <| .blV (e := (Enc.int .i64)) [v14] [(0, _, D.int .i64 v14, [D.int .i64 v14])] mk_Lint rfl rfl rfl ⟨rfl, rfl, .one rfl, rfl, trivial⟩ ⟨rfl, trivial⟩ rfl rfl rfl <| .mv rfl <| .gv (e := (Enc.int .i64)) (xs := ([v14] ++ v6)) (.apD (ys := v6) rfl (.refl _) rfl (.refl _) rfl mk_Lint rfl k16.1 k16.2 rfl <| .nil) rfl rfl rfl rfl <| .callG (C_r_trim e18) ⟨rfl, trivial⟩ trivial trivial <| .asg rfl <| .nil) rfl ?_
      refine .reg (.asg rfl <| .nil) rfl ?_
      obtain ⟨v33, hp20, h⟩ := bind_some h
      refine .cutX (fun i => v33 = i) (fun (i : Int) => [(0, slcE (Enc.int .i64) a1), (1, slcE (Enc.int .i64) a2), (6, slcE (Enc.int .i64) v17), (7, D.own 12), (8, D.int .i64 v7), (9, D.int .i64 i)]) (fun (i : Int) => [(12, rowE (Enc.int .i64) 3 v8)]) ?_ ?_
      · have ho3 := h
        clear h
        have h := hp20
        clear hp20
        refine .reg (.mv rfl <| .lnE rfl is_Lint <| .cm rfl rfl rfl <| .nil) rfl ?_
        by_cases c21 : (decide ((a2.length : Int) ≤ 3)) = true
        · replace h := ite_pos_some c21 h
          refine .cTb rfl c21 ?_
          obtain ⟨v22, e23, h⟩ := bind_some h
          obtain ⟨v24, e25, h⟩ := bind_some h
          obtain ⟨k26, h⟩ := must_some h
          refine .region (.mv rfl <| .callG (C_r_top e23) ⟨rfl, rfl, trivial⟩ trivial trivial <| .mv rfl <| .callG (C_r_top e25) ⟨rfl, rfl, trivial⟩ trivial trivial <| .ar rfl rfl (iquo k26) <| .asg rfl <| .nil) rfl (fun _ _ hs => ⟨(IntKind.i64.wrap (Int.tdiv v22 v24)), (Option.some.inj h).symm, hs.sub ⟨⟨_, rfl, .refl _⟩, ⟨_, rfl, .refl _⟩, ⟨_, rfl, .refl _⟩, ⟨_, rfl, .refl _⟩, ⟨_, rfl, .refl _⟩, ⟨_, rfl, .refl _⟩, trivial⟩ ⟨⟨_, rfl, .refl _⟩, trivial⟩ rfl rfl⟩)
        · replace h := ite_neg_some c21 h
          refine .cFb rfl c21 ?_
          refine .reg (.mv rfl <| .lnE rfl is_Lint <| .mv rfl <| .lnE rfl is_Lint <| .cm rfl rfl rfl <| .nil) rfl ?_
          by_cases c27 : (decide ((v17.length : Int) ≥ (a2.length : Int))) = true
          · replace h := ite_pos_some c27 h
            refine .cTb rfl c27 ?_
            obtain ⟨v28, e29, h⟩ := bind_some h
            obtain ⟨v30, e31, h⟩ := bind_some h
            obtain ⟨k32, h⟩ := must_some h
            refine .region (.mv rfl <| .mv rfl <| .lnE rfl is_Lint <| .ar rfl rfl rfl <| .callG (C_r_top e29) ⟨rfl, rfl, trivial⟩ trivial trivial <| .mv rfl <| .mv rfl <| .lnE rfl is_Lint <| .ar rfl rfl rfl <| .callG (C_r_top e31) ⟨rfl, rfl, trivial⟩ trivial trivial <| .ar rfl rfl rfl <| .ar rfl rfl (iquo k32) <| .asg rfl <| .nil) rfl (fun _ _ hs => ⟨(IntKind.i64.wrap (Int.tdiv v28 (IntKind.i64.wrap (v30 + 1)))), (Option.some.inj h).symm, hs.sub ⟨⟨_, rfl, .refl _⟩, ⟨_, rfl, .refl _⟩, ⟨_, rfl, .refl _⟩, ⟨_, rfl, .refl _⟩, ⟨_, rfl, .refl _⟩, ⟨_, rfl, .refl _⟩, trivial⟩ ⟨⟨_, rfl, .refl _⟩, trivial⟩ rfl rfl⟩)
          · replace h := ite_neg_some c27 h
            refine .cFb rfl c27 ?_
            refine .skip (fun _ _ hs => ⟨0, (Option.some.inj h).symm, hs.sub ⟨⟨_, rfl, .refl _⟩, ⟨_, rfl, .refl _⟩, ⟨_, rfl, .refl _⟩, ⟨_, rfl, .refl _⟩, ⟨_, rfl, .refl _⟩, ⟨_, rfl, .refl _⟩, trivial⟩ ⟨⟨_, rfl, .refl _⟩, trivial⟩ rfl rfl⟩)
      · rintro _ rfl
        show Ok PP _ [(0, slcE (Enc.int .i64) a1), (1, slcE (Enc.int .i64) a2), (6, slcE (Enc.int .i64) v17), (7, D.own 12), (8, D.int .i64 v7), (9, D.int .i64 v33)] [(12, rowE (Enc.int .i64) 3 v8)] _ _
        obtain ⟨⟨v34, v35⟩, e36, h⟩ := bind_some h
        obtain ⟨v37, e38, h⟩ := bind_some h
        obtain ⟨v39, e40, h⟩ := bind_some h
        refine .reg (.mv rfl <| .mv rfl <| .mv rfl <| .callG (C_r_ZInt e36) ⟨rfl, trivial⟩ trivial trivial <| .fdF rfl f_ambleref01_Z_1 (t := 33) (by kernel_rfl) ly_Lint rfl <| .callG (C_r_times e38) ⟨rfl, rfl, trivial⟩ trivial trivial <| .callG (C_r_minus e40) ⟨rfl, rfl, trivial⟩ trivial trivial <| .asg rfl <| .nil) rfl ?_
        obtain ⟨o43, hl44, h⟩ := bind_some h
        refine .cutX (fun i => o43 = i) (fun (i : (List Int) × Int) => [(0, slcE (Enc.int .i64) a1), (1, slcE (Enc.int .i64) a2), (6, slcE (Enc.int .i64) i.1), (7, D.own 12), (8, D.int .i64 v7), (9, D.int .i64 i.2)]) (fun (i : (List Int) × Int) => [(12, rowE (Enc.int .i64) 3 v8)]) ?_ ?_
        · have ho3 := h
          clear h
          refine .block (.loopL (fun (s : (List Int) × Int) => [(0, slcE (Enc.int .i64) a1), (1, slcE (Enc.int .i64) a2), (6, slcE (Enc.int .i64) s.1), (7, D.own 12), (8, D.int .i64 v7), (9, D.int .i64 s.2)]) (fun (s : (List Int) × Int) => [(12, rowE (Enc.int .i64) 3 v8)]) hl44 ⟨⟨_, rfl, .refl _⟩, ⟨_, rfl, .refl _⟩, ⟨_, rfl, .refl _⟩, ⟨_, rfl, .refl _⟩, ⟨_, rfl, .refl _⟩, ⟨_, rfl, .refl _⟩, trivial⟩ ⟨⟨_, rfl, .refl _⟩, trivial⟩ rfl rfl ?_)
          rintro ⟨v41, v42⟩ st45 hb46
          have h : m_r_over_l2 a2 v41 v42 = some st45 := hb46
          clear hb46
          unfold m_r_over_l2 at h
          show Ok PP _ [(0, slcE (Enc.int .i64) a1), (1, slcE (Enc.int .i64) a2), (6, slcE (Enc.int .i64) v41), (7, D.own 12), (8, D.int .i64 v7), (9, D.int .i64 v42)] [(12, rowE (Enc.int .i64) 3 v8)] _ _
          refine .sq ?_
          obtain ⟨v47, e48, h⟩ := bind_some h
          refine .reg (.mv rfl <| .mv rfl <| .callG (C_r_abs e48) ⟨rfl, rfl, trivial⟩ trivial trivial <| .cm rfl rfl rfl <| .nil) rfl ?_
          by_cases c49 : (decide (v47 ≥ 0)) = true
          · replace h := ite_pos_some c49 h
            refine .cTb rfl c49 ?_
            refine .skip (Ok.on ?_)
            refine .block ?_
            obtain ⟨v50, e51, h⟩ := bind_some h
            refine .reg (.mv rfl <| .mv rfl <| .callG (C_r_minus e51) ⟨rfl, rfl, trivial⟩ trivial trivial <| .asg rfl <| .nil) rfl ?_
            refine .region (.mv rfl <| .ar rfl rfl rfl <| .asg rfl <| .nil) rfl (fun _ _ hs => ⟨(v50, (IntKind.i64.wrap (v42 + 1))), (Option.some.inj h).symm, hs.sub ⟨⟨_, rfl, .refl _⟩, ⟨_, rfl, .refl _⟩, ⟨_, rfl, .refl _⟩, ⟨_, rfl, .refl _⟩, ⟨_, rfl, .refl _⟩, ⟨_, rfl, .refl _⟩, trivial⟩ ⟨⟨_, rfl, .refl _⟩, trivial⟩ rfl rfl⟩)
          · replace h := ite_neg_some c49 h
            refine .cFb rfl c49 ?_
            refine .exit (fun _ _ hs => ⟨_, (Option.some.inj h).symm, fun e => ⟨(v41, v42), e.symm, hs.sub ⟨⟨_, rfl, .refl _⟩, ⟨_, rfl, .refl _⟩, ⟨_, rfl, .refl _⟩, ⟨_, rfl, .refl _⟩, ⟨_, rfl, .refl _⟩, ⟨_, rfl, .refl _⟩, trivial⟩ ⟨⟨_, rfl, .refl _⟩, trivial⟩ rfl rfl⟩⟩)
        · rintro ⟨v52, v53⟩ rfl
          show Ok PP _ [(0, slcE (Enc.int .i64) a1), (1, slcE (Enc.int .i64) a2), (6, slcE (Enc.int .i64) v52), (7, D.own 12), (8, D.int .i64 v7), (9, D.int .i64 v53)] [(12, rowE (Enc.int .i64) 3 v8)] _ _
          refine .sl 7 rfl rfl rfl ?_
          obtain ⟨v54, e55, h⟩ := bind_some h
          refine .region (.mv rfl <| .mv rfl <| .mv rfl <| .ixR rfl rfl se_Lint (ix_some e55).1 (by have := ix_lt e55; have := (ix_some e55).1; (try simp only [List.length_set] at *); omega) <| .srE1 v53 rfl rfl rfl ly_int rfl rfl rfl rfl (ix_lt e55) <| .nil) rfl (Ok.on ?_)
          refine .region (.mv rfl <| .ar rfl rfl rfl <| .asg rfl <| .nil) rfl (fun _ _ hs => ⟨(v52, (IntKind.i64.wrap (v7 - 1)), (v8.set v7.toNat v53)), (Option.some.inj h).symm, hs.sub ⟨⟨_, rfl, .refl _⟩, ⟨_, rfl, .refl _⟩, ⟨_, rfl, .refl _⟩, ⟨_, rfl, .sl⟩, ⟨_, rfl, .refl _⟩, trivial⟩ ⟨⟨_, rfl, .refl _⟩, trivial⟩ rfl rfl⟩)
    · replace h := ite_neg_some c13 h
      refine .cFb rfl c13 ?_
      refine .exit (fun a w hs => ⟨_, (Option.some.inj h).symm, fun e => by subst e; have h := ho2; exact blk_exit (⟨(v6, v8), (Option.some.inj h).symm, hs.sub ⟨⟨_, rfl, .refl _⟩, ⟨_, rfl, .refl _⟩, trivial⟩ ⟨⟨_, rfl, .refl _⟩, trivial⟩ rfl rfl⟩)⟩)
  · rintro ⟨v58, v59⟩ rfl
    show Ok PP _ [(6, slcE (Enc.int .i64) v58), (7, D.own 12)] [(12, rowE (Enc.int .i64) 3 v59)] _ _
    refine .sl 7 rfl rfl rfl ?_
    refine .leT 7 (.own 12) rfl .sl ?_
    refine .giveE 7 rfl rfl rfl ?_
    obtain ⟨v60, e61, h⟩ := bind_some h
    refine .reg (.mv rfl <| .callG (C_r_trim e61) ⟨rfl, trivial⟩ trivial trivial <| .mv rfl <| .asg rfl <| .asg rfl <| .nil) rfl ?_
    cases h
    refine .retG (fun _ _ hb => hb) rfl (.cons (.tmp rfl) (.cons (.tmp rfl) .nil)) (.refl _) trivial trivial
def m_r_signed (a1 : Bool) (a2 : List Int) : Option (Bool × (List Int)) := (if a1 = true then some ((decide ((a2.length : Int) > 0)), a2) else some (false, a2))
theorem C_r_signed {a1 : Bool} {a2 : List Int} {r4 : Bool} {r5 : List Int} (h : m_r_signed a1 a2 = some (r4, r5)) : CtrG PP 181 [] [D.bool a1, slcE (Enc.int .i64) a2] [] (D.agg ([D.bool r4, slcE (Enc.int .i64) r5])) := by
  unfold m_r_signed at h
  refine .of Go.Proofs.Tryz.func181 rfl (by kernel_rfl) rfl rfl rfl rfl rfl rfl (fun A w0 L b => ?_)
  show Ok PP _ [(0, D.bool a1), (1, slcE (Enc.int .i64) a2)] [] _ _
  refine .reg (.alL ([D.bool false, D.nil]) z_ambleref01_Z ⟨.refl _, .refl _, trivial⟩ rfl <| .nil) rfl ?_
  by_cases c3 : a1 = true
  · replace h := ite_pos_some c3 h
    refine .reg (.mv rfl <| .mv rfl <| .gYt rfl rfl rfl c3 <| .mv rfl <| .gYt rfl rfl rfl c3 <| .lnE rfl is_Lint <| .gYt rfl rfl rfl c3 <| .cm rfl rfl rfl <| .pkTb rfl c3 rfl <| .mv rfl <| .bdQ ([D.bool (decide ((a2.length : Int) > 0)), slcE (Enc.int .i64) a2]) [(0, _, D.bool (decide ((a2.length : Int) > 0)), [D.bool (decide ((a2.length : Int) > 0))]), (1, _, slcE (Enc.int .i64) a2, [slcE (Enc.int .i64) a2])] z_ambleref01_Z pl_ambleref01_Z ⟨rfl, rfl, .one rfl, rfl, rfl, rfl, .one rfl, rfl, trivial⟩ ⟨rfl, rfl, trivial⟩ ⟨.refl _, .refl _, trivial⟩ <| .stE ([D.bool (decide ((a2.length : Int) > 0)), slcE (Enc.int .i64) a2]) rfl rfl rfl ly_ambleref01_Z rfl rfl rfl <| .nil) rfl ?_
    cases h
    refine .retG (fun _ _ hb => hb) rfl (.cons (.agg rfl rfl ly_ambleref01_Z rfl) .nil) (.refl _) trivial trivial
  · replace h := ite_neg_some c3 h
    refine .reg (.mv rfl <| .mv rfl <| .gNt rfl rfl rfl c3 <| .gNt rfl rfl rfl c3 <| .gNt rfl rfl rfl c3 <| .pkFb rfl c3 rfl <| .mv rfl <| .bdQ ([D.bool false, slcE (Enc.int .i64) a2]) [(0, _, D.bool false, [D.bool false]), (1, _, slcE (Enc.int .i64) a2, [slcE (Enc.int .i64) a2])] z_ambleref01_Z pl_ambleref01_Z ⟨rfl, rfl, .one rfl, rfl, rfl, rfl, .one rfl, rfl, trivial⟩ ⟨rfl, rfl, trivial⟩ ⟨.refl _, .refl _, trivial⟩ <| .stE ([D.bool false, slcE (Enc.int .i64) a2]) rfl rfl rfl ly_ambleref01_Z rfl rfl rfl <| .nil) rfl ?_
    cases h
    refine .retG (fun _ _ hb => hb) rfl (.cons (.agg rfl rfl ly_ambleref01_Z rfl) .nil) (.refl _) trivial trivial
def m_r_ZNeg (a1 : Bool) (a2 : List Int) : Option (Bool × (List Int)) := (m_r_signed (!a1) a2).bind fun (v3, v4) => some (v3, v4)
theorem C_r_ZNeg {a1 : Bool} {a2 : List Int} {r6 : Bool} {r7 : List Int} (h : m_r_ZNeg a1 a2 = some (r6, r7)) : CtrG PP 160 [] [D.agg ([D.bool a1, slcE (Enc.int .i64) a2])] [] (D.agg ([D.bool r6, slcE (Enc.int .i64) r7])) := by
  unfold m_r_ZNeg at h
  refine .of Go.Proofs.Tryz.func160 rfl (by kernel_rfl) rfl rfl rfl rfl rfl rfl (fun A w0 L b => ?_)
  show Ok PP _ [(0, D.agg ([D.bool a1, slcE (Enc.int .i64) a2]))] [] _ _
  refine .reg (.bxA rfl rfl <| .alL ([D.bool false, D.nil]) z_ambleref01_Z ⟨.refl _, .refl _, trivial⟩ rfl <| .nil) rfl ?_
  obtain ⟨⟨v3, v4⟩, e5, h⟩ := bind_some h
  refine .reg (.fa rfl f_ambleref01_Z_0 <| .ldE1 (D.bool a1) rfl rfl ly_bool rfl <| .not rfl <| .fa rfl f_ambleref01_Z_1 <| .ldE1 (slcE (Enc.int .i64) a2) rfl rfl ly_Lint rfl <| .callG (C_r_signed e5) ⟨rfl, rfl, trivial⟩ trivial trivial <| .stE ([D.bool v3, slcE (Enc.int .i64) v4]) rfl rfl rfl ly_ambleref01_Z rfl rfl rfl <| .nil) rfl ?_
  cases h
  refine .retG (fun _ _ hb => hb) rfl (.cons (.agg rfl rfl ly_ambleref01_Z rfl) .nil) (.refl _) trivial trivial
def m_r_ZAdd (a1 : Bool) (a2 : List Int) (a3 : Bool) (a4 : List Int) : Option (Bool × (List Int)) := (if (a1 == a3) = true then (m_r_plus a2 a4).bind fun v6 => (m_r_signed a1 v6).bind fun (v8, v9) => some (v8, v9) else (m_r_abs a2 a4).bind fun v11 => (if (decide (v11 ≥ 0)) = true then (m_r_minus a2 a4).bind fun v14 => (m_r_signed a1 v14).bind fun (v16, v17) => some (v16, v17) else (m_r_minus a4 a2).bind fun v19 => (m_r_signed a3 v19).bind fun (v21, v22) => some (v21, v22)))
theorem C_r_ZAdd {a1 : Bool} {a2 : List Int} {a3 : Bool} {a4 : List Int} {r24 : Bool} {r25 : List Int} (h : m_r_ZAdd a1 a2 a3 a4 = some (r24, r25)) : CtrG PP 159 [] [D.agg ([D.bool a1, slcE (Enc.int .i64) a2]), D.agg ([D.bool a3, slcE (Enc.int .i64) a4])] [] (D.agg ([D.bool r24, slcE (Enc.int .i64) r25])) := by
  unfold m_r_ZAdd at h
  refine .of Go.Proofs.Tryz.func159 rfl (by kernel_rfl) rfl rfl rfl rfl rfl rfl (fun A w0 L b => ?_)
  show Ok PP _ [(0, D.agg ([D.bool a1, slcE (Enc.int .i64) a2])), (1, D.agg ([D.bool a3, slcE (Enc.int .i64) a4]))] [] _ _
  refine .reg (.bxA rfl rfl <| .bxA rfl rfl <| .alL ([D.bool false, D.nil]) z_ambleref01_Z ⟨.refl _, .refl _, trivial⟩ rfl <| .nil) rfl ?_
  refine .sq ?_
  refine .reg (.fa rfl f_ambleref01_Z_0 <| .ldE1 (D.bool a1) rfl rfl ly_bool rfl <| .fa rfl f_ambleref01_Z_0 <| .ldE1 (D.bool a3) rfl rfl ly_bool rfl <| .bc ib_bool rfl rfl rfl <| .nil) rfl ?_
  by_cases c5 : (a1 == a3) = true
  · replace h := ite_pos_some c5 h
    refine .cTb rfl c5 ?_
    obtain ⟨v6, e7, h⟩ := bind_some h
    obtain ⟨⟨v8, v9⟩, e10, h⟩ := bind_some h
    refine .regD hmix (.fa rfl f_ambleref01_Z_0 <| .ldE1 (D.bool a1) rfl rfl ly_bool rfl <| .fa rfl f_ambleref01_Z_1 <| .ldE1 (slcE (Enc.int .i64) a2) rfl rfl ly_Lint rfl <| .fa rfl f_ambleref01_Z_1 <| .ldE1 (slcE (Enc.int .i64) a4) rfl rfl ly_Lint rfl <| .callG (C_r_plus e7) ⟨rfl, rfl, trivial⟩ trivial trivial <| .callG (C_r_signed e10) ⟨rfl, rfl, trivial⟩ trivial trivial <| .stE ([D.bool v8, slcE (Enc.int .i64) v9]) rfl rfl rfl ly_ambleref01_Z rfl rfl rfl <| .nil) rfl (by kernel_rfl) ?_
    cases h
    refine .retG (fun _ _ hb => hb) rfl (.cons (.agg rfl rfl ly_ambleref01_Z rfl) .nil) (.refl _) trivial trivial
  · replace h := ite_neg_some c5 h
    refine .cFb rfl c5 ?_
    refine .skip (Ok.on ?_)
    refine .sq ?_
    obtain ⟨v11, e12, h⟩ := bind_some h
    refine .reg (.fa rfl f_ambleref01_Z_1 <| .ldE1 (slcE (Enc.int .i64) a2) rfl rfl ly_Lint rfl <| .fa rfl f_ambleref01_Z_1 <| .ldE1 (slcE (Enc.int .i64) a4) rfl rfl ly_Lint rfl <| .callG (C_r_abs e12) ⟨rfl, rfl, trivial⟩ trivial trivial <| .cm rfl rfl rfl <| .nil) rfl ?_
    by_cases c13 : (decide (v11 ≥ 0)) = true
    · replace h := ite_pos_some c13 h
      refine .cTb rfl c13 ?_
      obtain ⟨v14, e15, h⟩ := bind_some h
      obtain ⟨⟨v16, v17⟩, e18, h⟩ := bind_some h
      refine .regD hmix (.fa rfl f_ambleref01_Z_0 <| .ldE1 (D.bool a1) rfl rfl ly_bool rfl <| .fa rfl f_ambleref01_Z_1 <| .ldE1 (slcE (Enc.int .i64) a2) rfl rfl ly_Lint rfl <| .fa rfl f_ambleref01_Z_1 <| .ldE1 (slcE (Enc.int .i64) a4) rfl rfl ly_Lint rfl <| .callG (C_r_minus e15) ⟨rfl, rfl, trivial⟩ trivial trivial <| .callG (C_r_signed e18) ⟨rfl, rfl, trivial⟩ trivial trivial <| .stE ([D.bool v16, slcE (Enc.int .i64) v17]) rfl rfl rfl ly_ambleref01_Z rfl rfl rfl <| .nil) rfl (by kernel_rfl) ?_
      cases h
      refine .retG (fun _ _ hb => hb) rfl (.cons (.agg rfl rfl ly_ambleref01_Z rfl) .nil) (.refl _) trivial trivial
    · replace h := ite_neg_some c13 h
      refine .cFb rfl c13 ?_
      refine .skip (Ok.on ?_)
      obtain ⟨v19, e20, h⟩ := bind_some h
      obtain ⟨⟨v21, v22⟩, e23, h⟩ := bind_some h
      refine .regD hmix (.fa rfl f_ambleref01_Z_0 <| .ldE1 (D.bool a3) rfl rfl ly_bool rfl <| .fa rfl f_ambleref01_Z_1 <| .ldE1 (slcE (Enc.int .i64) a4) rfl rfl ly_Lint rfl <| .fa rfl f_ambleref01_Z_1 <| .ldE1 (slcE (Enc.int .i64) a2) rfl rfl ly_Lint rfl <| .callG (C_r_minus e20) ⟨rfl, rfl, trivial⟩ trivial trivial <| .callG (C_r_signed e23) ⟨rfl, rfl, trivial⟩ trivial trivial <| .stE ([D.bool v21, slcE (Enc.int .i64) v22]) rfl rfl rfl ly_ambleref01_Z rfl rfl rfl <| .nil) rfl (by kernel_rfl) ?_
      cases h
      refine .retG (fun _ _ hb => hb) rfl (.cons (.agg rfl rfl ly_ambleref01_Z rfl) .nil) (.refl _) trivial trivial
def m_r_ZMul (a1 : Bool) (a2 : List Int) (a3 : Bool) (a4 : List Int) : Option (Bool × (List Int)) := (m_r_times a2 a4).bind fun v5 => (m_r_signed (!(a1 == a3)) v5).bind fun (v7, v8) => some (v7, v8)
theorem C_r_ZMul {a1 : Bool} {a2 : List Int} {a3 : Bool} {a4 : List Int} {r10 : Bool} {r11 : List Int} (h : m_r_ZMul a1 a2 a3 a4 = some (r10, r11)) : CtrG PP 158 [] [D.agg ([D.bool a1, slcE (Enc.int .i64) a2]), D.agg ([D.bool a3, slcE (Enc.int .i64) a4])] [] (D.agg ([D.bool r10, slcE (Enc.int .i64) r11])) := by
  unfold m_r_ZMul at h
  refine .of Go.Proofs.Tryz.func158 rfl (by kernel_rfl) rfl rfl rfl rfl rfl rfl (fun A w0 L b => ?_)
  show Ok PP _ [(0, D.agg ([D.bool a1, slcE (Enc.int .i64) a2])), (1, D.agg ([D.bool a3, slcE (Enc.int .i64) a4]))] [] _ _
  refine .reg (.bxA rfl rfl <| .bxA rfl rfl <| .alL ([D.bool false, D.nil]) z_ambleref01_Z ⟨.refl _, .refl _, trivial⟩ rfl <| .nil) rfl ?_
  obtain ⟨v5, e6, h⟩ := bind_some h
  obtain ⟨⟨v7, v8⟩, e9, h⟩ := bind_some h
  refine .regD hmix (.fa rfl f_ambleref01_Z_0 <| .ldE1 (D.bool a1) rfl rfl ly_bool rfl <| .fa rfl f_ambleref01_Z_0 <| .ldE1 (D.bool a3) rfl rfl ly_bool rfl <| .bc ib_bool rfl rfl rfl <| .fa rfl f_ambleref01_Z_1 <| .ldE1 (slcE (Enc.int .i64) a2) rfl rfl ly_Lint rfl <| .fa rfl f_ambleref01_Z_1 <| .ldE1 (slcE (Enc.int .i64) a4) rfl rfl ly_Lint rfl <| .callG (C_r_times e6) ⟨rfl, rfl, trivial⟩ trivial trivial <| .callG (C_r_signed e9) ⟨rfl, rfl, trivial⟩ trivial trivial <| .stE ([D.bool v7, slcE (Enc.int .i64) v8]) rfl rfl rfl ly_ambleref01_Z rfl rfl rfl <| .nil) rfl (by kernel_rfl) ?_
  cases h
  refine .retG (fun _ _ hb => hb) rfl (.cons (.agg rfl rfl ly_ambleref01_Z rfl) .nil) (.refl _) trivial trivial
def m_r_small_l1 (a2 : List Int) (v6 : Int) (v7 : Int) : Option (St (Int × Int) Int) := (if (decide (v7 ≥ 0)) = true then (ix a2 v7).bind fun v13 => some (St.next ((IntKind.i64.wrap ((IntKind.i64.wrap (v6 * 10000)) + v13)), (IntKind.i64.wrap (v7 - 1)))) else some (St.done v6))
def m_r_small (a1 : Bool) (a2 : List Int) : Option (Int × Bool) := (if (decide ((a2.length : Int) > 4)) = true then some (0, false) else ((Loop (fun (s : Int × Int) => m_r_small_l1 a2 s.1 s.2) (0, (IntKind.i64.wrap ((a2.length : Int) - 1)))).bind fun v15 => some (v15)).bind fun v16 => some (v16, true))
theorem C_r_small {a1 : Bool} {a2 : List Int} {r17 : Int} {r18 : Bool} (h : m_r_small a1 a2 = some (r17, r18)) : CtrG PP 249 [] [D.agg ([D.bool a1, slcE (Enc.int .i64) a2])] [] (D.tup [D.int .i64 r17, D.bool r18]) := by
  unfold m_r_small at h
  refine .of Go.Proofs.Tryz.func249 rfl (by kernel_rfl) rfl rfl rfl rfl rfl rfl (fun A w0 L b => ?_)
  show Ok PP _ [(0, D.agg ([D.bool a1, slcE (Enc.int .i64) a2]))] [] _ _
  refine .reg (.bxA rfl rfl <| .asg rfl <| .asg rfl <| .nil) rfl ?_
  refine .sq ?_
  refine .reg (.fa rfl f_ambleref01_Z_1 <| .ldE1 (slcE (Enc.int .i64) a2) rfl rfl ly_Lint rfl <| .lnE rfl is_Lint <| .cm rfl rfl rfl <| .nil) rfl ?_
  by_cases c3 : (decide ((a2.length : Int) > 4)) = true
  · replace h := ite_pos_some c3 h
    refine .cTb rfl c3 ?_
    refine .reg (.asg rfl <| .asg rfl <| .nil) rfl ?_
    cases h
    refine .retG (fun _ _ hb => hb) rfl (.cons (.tmp rfl) (.cons (.tmp rfl) .nil)) (.refl _) trivial trivial
  · replace h := ite_neg_some c3 h
    refine .cFb rfl c3 ?_
    refine .skip (Ok.on ?_)
    refine .reg (.asg rfl <| .nil) rfl ?_
    obtain ⟨v16, hp5, h⟩ := bind_some h
    refine .cutX (fun i => v16 = i) (fun (i : Int) => [(4, D.int .i64 i)]) (fun (i : Int) => []) ?_ ?_
    · have ho1 := h
      clear h
      have h := hp5
      clear hp5
      refine .reg (.fa rfl f_ambleref01_Z_1 <| .ldE1 (slcE (Enc.int .i64) a2) rfl rfl ly_Lint rfl <| .lnE rfl is_Lint <| .ar rfl rfl rfl <| .asg rfl <| .nil) rfl ?_
      obtain ⟨o8, hl9, h⟩ := bind_some h
      have ho2 := h
      clear h
      refine .block (.loopL (fun (s : Int × Int) => [(1, D.ref 1 0), (4, D.int .i64 s.1), (5, D.int .i64 s.2)]) (fun (s : Int × Int) => [(1, Hp.box 35 ([D.bool a1, slcE (Enc.int .i64) a2]))]) hl9 ⟨⟨_, rfl, .refl _⟩, ⟨_, rfl, .refl _⟩, ⟨_, rfl, .refl _⟩, trivial⟩ ⟨⟨_, rfl, .refl _⟩, trivial⟩ rfl rfl ?_)
      rintro ⟨v6, v7⟩ st10 hb11
      have h : m_r_small_l1 a2 v6 v7 = some st10 := hb11
      clear hb11
      unfold m_r_small_l1 at h
      show Ok PP _ [(1, D.ref 1 0), (4, D.int .i64 v6), (5, D.int .i64 v7)] [(1, Hp.box 35 ([D.bool a1, slcE (Enc.int .i64) a2]))] _ _
      refine .sq ?_
      refine .reg (.mv rfl <| .cm rfl rfl rfl <| .nil) rfl ?_
      by_cases c12 : (decide (v7 ≥ 0)) = true
      · replace h := ite_pos_some c12 h
        refine .cTb rfl c12 ?_
        refine .skip (Ok.on ?_)
        refine .sq ?_
        refine .block ?_
        obtain ⟨v13, e14, h⟩ := bind_some h
        refine .region (.mv rfl <| .ar rfl rfl rfl <| .fa rfl f_ambleref01_Z_1 <| .ldE1 (slcE (Enc.int .i64) a2) rfl rfl ly_Lint rfl <| .mv rfl <| .ixE rfl rfl se_Lint (ix_some e14).1 (ix_some e14).2 <| .lp1 rfl ly_int <| .ar rfl rfl rfl <| .asg rfl <| .nil) rfl (Ok.on ?_)
        refine .region (.mv rfl <| .ar rfl rfl rfl <| .asg rfl <| .nil) rfl (fun _ _ hs => ⟨((IntKind.i64.wrap ((IntKind.i64.wrap (v6 * 10000)) + v13)), (IntKind.i64.wrap (v7 - 1))), (Option.some.inj h).symm, hs.sub ⟨⟨_, rfl, .refl _⟩, ⟨_, rfl, .refl _⟩, ⟨_, rfl, .refl _⟩, trivial⟩ ⟨⟨_, rfl, .refl _⟩, trivial⟩ rfl rfl⟩)
      · replace h := ite_neg_some c12 h
        refine .cFb rfl c12 ?_
        refine .exit (fun a w hs => ⟨_, (Option.some.inj h).symm, fun e => by subst e; have h := ho2; exact blk_exit (⟨v6, (Option.some.inj h).symm, hs.sub ⟨⟨_, rfl, .refl _⟩, trivial⟩ trivial rfl rfl⟩)⟩)
    · rintro _ rfl
      show Ok PP _ [(4, D.int .i64 v16)] [] _ _
      refine .reg (.mv rfl <| .asg rfl <| .asg rfl <| .nil) rfl ?_
      cases h
      refine .retG (fun _ _ hb => hb) rfl (.cons (.tmp rfl) (.cons (.tmp rfl) .nil)) (.refl _) trivial trivial
def m_r_ZGcd_l2 (v22 : Int) (v23 : Int) : Option (St (Int × Int) Int) := (if (v23 != 0) = true then must ((v23 : Int) ≠ 0) (some (St.next (v23, (Int.tmod v22 v23)))) else some (St.done v22))
def m_r_ZGcd_l1 (v5 : List Int) (v6 : List Int) : Option (St ((List Int) × (List Int)) (Ex (List Int) (Bool × (List Int)))) := (if (decide ((v6.length : Int) > 0)) = true then (m_r_small false v5).bind fun (v12, v13) => (m_r_small false v6).bind fun (v15, v16) => ((if v13 = true then (if v16 = true then (Loop (fun (s : Int × Int) => m_r_ZGcd_l2 s.1 s.2) (v12, v15)).bind fun v30 => (m_r_ZInt v30).bind fun (v31, v32) => some (Ex.ret (v31, v32)) else some (Ex.brk ())) else some (Ex.brk ()))).bind fun o18 => (match o18 with | Ex.brk () => (m_r_over v5 v6).bind fun (v34, v35) => some (St.next (v6, v35)) | Ex.ret (r37, r38) => some (St.done (Ex.ret (r37, r38)))) else some (St.done (Ex.brk v5)))
def m_r_ZGcd (a1 : Bool) (a2 : List Int) (a3 : Bool) (a4 : List Int) : Option (Bool × (List Int)) := (Loop (fun (s : (List Int) × (List Int)) => m_r_ZGcd_l1 s.1 s.2) (a2, a4)).bind fun o7 => (match o7 with | Ex.brk v39 => some (false, v39) | Ex.ret (r40, r41) => some (r40, r41))
theorem C_r_ZGcd {a1 : Bool} {a2 : List Int} {a3 : Bool} {a4 : List Int} {r42 : Bool} {r43 : List Int} (h : m_r_ZGcd a1 a2 a3 a4 = some (r42, r43)) : CtrG PP 220 [] [D.agg ([D.bool a1, slcE (Enc.int .i64) a2]), D.agg ([D.bool a3, slcE (Enc.int .i64) a4])] [] (D.agg ([D.bool r42, slcE (Enc.int .i64) r43])) := by
  unfold m_r_ZGcd at h
  refine .of Go.Proofs.Tryz.func220 rfl (by kernel_rfl) rfl rfl rfl rfl rfl rfl (fun A w0 L b => ?_)
  show Ok PP _ [(0, D.agg ([D.bool a1, slcE (Enc.int .i64) a2])), (1, D.agg ([D.bool a3, slcE (Enc.int .i64) a4]))] [] _ _
  refine .reg (.bxA rfl rfl <| .bxA rfl rfl <| .alL ([D.bool false, D.nil]) z_ambleref01_Z ⟨.refl _, .refl _, trivial⟩ rfl <| .nil) rfl ?_
  refine .regD hmix (.fa rfl f_ambleref01_Z_1 <| .ldE1 (slcE (Enc.int .i64) a2) rfl rfl ly_Lint rfl <| .fa rfl f_ambleref01_Z_1 <| .ldE1 (slcE (Enc.int .i64) a4) rfl rfl ly_Lint rfl <| .asg rfl <| .asg rfl <| .nil) rfl (by kernel_rfl) ?_
  obtain ⟨o7, hl8, h⟩ := bind_some h
  refine .cutX (fun i => o7 = Ex.brk i) (fun (i : (List Int)) => [(4, D.ref 4 0), (5, slcE (Enc.int .i64) i)]) (fun (i : (List Int)) => [(4, Hp.box 35 ([D.bool false, D.nil]))]) ?_ ?_
  · have ho1 := h
    clear h
    refine .block (.loopL (fun (s : (List Int) × (List Int)) => [(4, D.ref 4 0), (5, slcE (Enc.int .i64) s.1), (6, slcE (Enc.int .i64) s.2)]) (fun (s : (List Int) × (List Int)) => [(4, Hp.box 35 ([D.bool false, D.nil]))]) hl8 ⟨⟨_, rfl, .refl _⟩, ⟨_, rfl, .refl _⟩, ⟨_, rfl, .refl _⟩, trivial⟩ ⟨⟨_, rfl, .refl _⟩, trivial⟩ rfl rfl ?_)
    rintro ⟨v5, v6⟩ st9 hb10
    have h : m_r_ZGcd_l1 v5 v6 = some st9 := hb10
    clear hb10
    unfold m_r_ZGcd_l1 at h
    show Ok PP _ [(4, D.ref 4 0), (5, slcE (Enc.int .i64) v5), (6, slcE (Enc.int .i64) v6)] [(4, Hp.box 35 ([D.bool false, D.nil]))] _ _
    refine .sq ?_
    refine .reg (.mv rfl <| .lnE rfl is_Lint <| .cm rfl rfl rfl <| .nil) rfl ?_
    by_cases c11 : (decide ((v6.length : Int) > 0)) = true
    · replace h := ite_pos_some c11 h
      refine .cTb rfl c11 ?_
      refine .skip (Ok.on ?_)
      refine .block ?_
      obtain ⟨⟨v12, v13⟩, e14, h⟩ := bind_some h
      refine .reg (.mv rfl <| .bdQ ([D.bool false, slcE (Enc.int .i64) v5]) [(1, _, slcE (Enc.int .i64) v5, [slcE (Enc.int .i64) v5])] z_ambleref01_Z pl_ambleref01_Z ⟨rfl, rfl, .one rfl, rfl, trivial⟩ ⟨rfl, trivial⟩ ⟨.refl _, .refl _, trivial⟩ <| .callG (C_r_small e14) ⟨rfl, trivial⟩ trivial trivial <| .mv rfl <| .ext rfl rfl <| .ext rfl rfl <| .asg rfl <| .asg rfl <| .nil) rfl ?_
      obtain ⟨⟨v15, v16⟩, e17, h⟩ := bind_some h
      refine .reg (.mv rfl <| .bdQ ([D.bool false, slcE (Enc.int .i64) v6]) [(1, _, slcE (Enc.int .i64) v6, [slcE (Enc.int .i64) v6])] z_ambleref01_Z pl_ambleref01_Z ⟨rfl, rfl, .one rfl, rfl, trivial⟩ ⟨rfl, trivial⟩ ⟨.refl _, .refl _, trivial⟩ <| .callG (C_r_small e17) ⟨rfl, trivial⟩ trivial trivial <| .mv rfl <| .ext rfl rfl <| .ext rfl rfl <| .asg rfl <| .asg rfl <| .nil) rfl ?_
      obtain ⟨o18, hp19, h⟩ := bind_some h
      refine .cutX (fun i => o18 = Ex.brk i) (fun (i : Unit) => [(4, D.ref 4 0), (5, slcE (Enc.int .i64) v5), (6, slcE (Enc.int .i64) v6)]) (fun (i : Unit) => [(4, Hp.box 35 ([D.bool false, D.nil]))]) ?_ ?_
      · have ho2 := h
        clear h
        have h := hp19
        clear hp19
        by_cases c20 : v13 = true
        · replace h := ite_pos_some c20 h
          refine .reg (.mv rfl <| .mv rfl <| .gYt rfl rfl rfl c20 <| .mv rfl <| .pkTb rfl c20 rfl <| .nil) rfl ?_
          by_cases c21 : v16 = true
          · replace h := ite_pos_some c21 h
            refine .cTb rfl c21 ?_
            obtain ⟨v30, hl25, h⟩ := bind_some h
            refine .cutX (fun i => v30 = i) (fun (i : Int) => [(4, D.ref 4 0), (7, D.int .i64 i)]) (fun (i : Int) => [(4, Hp.box 35 ([D.bool false, D.nil]))]) ?_ ?_
            · have ho3 := h
              clear h
              refine .block (.loopL (fun (s : Int × Int) => [(4, D.ref 4 0), (7, D.int .i64 s.1), (9, D.int .i64 s.2)]) (fun (s : Int × Int) => [(4, Hp.box 35 ([D.bool false, D.nil]))]) hl25 ⟨⟨_, rfl, .refl _⟩, ⟨_, rfl, .refl _⟩, ⟨_, rfl, .refl _⟩, trivial⟩ ⟨⟨_, rfl, .refl _⟩, trivial⟩ rfl rfl ?_)
              rintro ⟨v22, v23⟩ st26 hb27
              have h : m_r_ZGcd_l2 v22 v23 = some st26 := hb27
              clear hb27
              unfold m_r_ZGcd_l2 at h
              show Ok PP _ [(4, D.ref 4 0), (7, D.int .i64 v22), (9, D.int .i64 v23)] [(4, Hp.box 35 ([D.bool false, D.nil]))] _ _
              refine .sq ?_
              refine .reg (.mv rfl <| .cm rfl rfl rfl <| .nil) rfl ?_
              by_cases c28 : (v23 != 0) = true
              · replace h := ite_pos_some c28 h
                refine .cTb rfl c28 ?_
                refine .skip (Ok.on ?_)
                refine .block ?_
                obtain ⟨k29, h⟩ := must_some h
                refine .regionD hmix (.mv rfl <| .mv rfl <| .mv rfl <| .ar rfl rfl (irem k29) <| .asg rfl <| .asg rfl <| .nil) rfl (by kernel_rfl) (fun _ _ hs => ⟨(v23, (Int.tmod v22 v23)), (Option.some.inj h).symm, hs.sub ⟨⟨_, rfl, .refl _⟩, ⟨_, rfl, .refl _⟩, ⟨_, rfl, .refl _⟩, trivial⟩ ⟨⟨_, rfl, .refl _⟩, trivial⟩ rfl rfl⟩)
              · replace h := ite_neg_some c28 h
                refine .cFb rfl c28 ?_
                refine .exit (fun _ _ hs => ⟨_, (Option.some.inj h).symm, fun e => ⟨v22, e.symm, hs.sub ⟨⟨_, rfl, .refl _⟩, ⟨_, rfl, .refl _⟩, trivial⟩ ⟨⟨_, rfl, .refl _⟩, trivial⟩ rfl rfl⟩⟩)
            · rintro _ rfl
              show Ok PP _ [(4, D.ref 4 0), (7, D.int .i64 v30)] [(4, Hp.box 35 ([D.bool false, D.nil]))] _ _
              obtain ⟨⟨v31, v32⟩, e33, h⟩ := bind_some h
              refine .reg (.mv rfl <| .callG (C_r_ZInt e33) ⟨rfl, trivial⟩ trivial trivial <| .stE ([D.bool v31, slcE (Enc.int .i64) v32]) rfl rfl rfl ly_ambleref01_Z rfl rfl rfl <| .nil) rfl ?_
              cases h
              have h := ho2
              clear ho2
              refine .retG (Hi := []) (Ho := []) (b := b) (fn := Go.Proofs.Tryz.f220) (d := D.agg ([D.bool v31, slcE (Enc.int .i64) v32])) (fun _ _ hb => by exact ⟨_, (Option.some.inj h).symm, fun e => by subst e; have h := ho1; cases h; exact hb⟩) rfl (.cons (.agg rfl rfl ly_ambleref01_Z rfl) .nil) (.refl _) trivial trivial
          · replace h := ite_neg_some c21 h
            refine .cFb rfl c21 ?_
            refine .skip (fun _ _ hs => ⟨(), (Option.some.inj h).symm, hs.sub ⟨⟨_, rfl, .refl _⟩, ⟨_, rfl, .refl _⟩, ⟨_, rfl, .refl _⟩, trivial⟩ ⟨⟨_, rfl, .refl _⟩, trivial⟩ rfl rfl⟩)
        · replace h := ite_neg_some c20 h
          refine .reg (.mv rfl <| .mv rfl <| .gNt rfl rfl rfl c20 <| .pkFb rfl c20 rfl <| .nil) rfl ?_
          refine .cFb rfl (by decide) ?_
          refine .skip (fun _ _ hs => ⟨(), (Option.some.inj h).symm, hs.sub ⟨⟨_, rfl, .refl _⟩, ⟨_, rfl, .refl _⟩, ⟨_, rfl, .refl _⟩, trivial⟩ ⟨⟨_, rfl, .refl _⟩, trivial⟩ rfl rfl⟩)
      · rintro ⟨⟩ rfl
        show Ok PP _ [(4, D.ref 4 0), (5, slcE (Enc.int .i64) v5), (6, slcE (Enc.int .i64) v6)] [(4, Hp.box 35 ([D.bool false, D.nil]))] _ _
        obtain ⟨⟨v34, v35⟩, e36, h⟩ := bind_some h
        refine .reg (.mv rfl <| .mv rfl <| .callG (C_r_over e36) ⟨rfl, rfl, trivial⟩ trivial trivial <| .mv rfl <| .ext rfl rfl <| .ext rfl rfl <| .asg rfl <| .asg rfl <| .nil) rfl ?_
        refine .region (.mv rfl <| .mv rfl <| .asg rfl <| .asg rfl <| .nil) rfl (fun _ _ hs => ⟨(v6, v35), (Option.some.inj h).symm, hs.sub ⟨⟨_, rfl, .refl _⟩, ⟨_, rfl, .refl _⟩, ⟨_, rfl, .refl _⟩, trivial⟩ ⟨⟨_, rfl, .refl _⟩, trivial⟩ rfl rfl⟩)
    · replace h := ite_neg_some c11 h
      refine .cFb rfl c11 ?_
      refine .exit (fun _ _ hs => ⟨_, (Option.some.inj h).symm, fun e => ⟨v5, e.symm, hs.sub ⟨⟨_, rfl, .refl _⟩, ⟨_, rfl, .refl _⟩, trivial⟩ ⟨⟨_, rfl, .refl _⟩, trivial⟩ rfl rfl⟩⟩)
  · rintro v39 rfl
    show Ok PP _ [(4, D.ref 4 0), (5, slcE (Enc.int .i64) v39)] [(4, Hp.box 35 ([D.bool false, D.nil]))] _ _
    refine .reg (.mv rfl <| .bdQ ([D.bool false, slcE (Enc.int .i64) v39]) [(1, _, slcE (Enc.int .i64) v39, [slcE (Enc.int .i64) v39])] z_ambleref01_Z pl_ambleref01_Z ⟨rfl, rfl, .one rfl, rfl, trivial⟩ ⟨rfl, trivial⟩ ⟨.refl _, .refl _, trivial⟩ <| .stE ([D.bool false, slcE (Enc.int .i64) v39]) rfl rfl rfl ly_ambleref01_Z rfl rfl rfl <| .nil) rfl ?_
    cases h
    refine .retG (fun _ _ hb => hb) rfl (.cons (.agg rfl rfl ly_ambleref01_Z rfl) .nil) (.refl _) trivial trivial
def m_r_ZText_l2 (v17 : List UInt8) (v18 : Int) (v19 : Int) : Option (St ((List UInt8) × Int × Int) (List UInt8)) := (if (decide (v19 < 4)) = true then must ((0 : Int) ≤ (Int.tmod v18 10) ∧ ((Int.tmod v18 10) : Int) ≤ (IntKind.i64.wrap ((Int.tmod v18 10) + 1)) ∧ ((IntKind.i64.wrap ((Int.tmod v18 10) + 1)) : Int) ≤ (([48, 49, 50, 51, 52, 53, 54, 55, 56, 57] : List UInt8).length : Int)) (must ((List.drop (Int.tmod v18 10).toNat (List.take (IntKind.i64.wrap ((Int.tmod v18 10) + 1)).toNat ([48, 49, 50, 51, 52, 53, 54, 55, 56, 57] : List UInt8))).length + v17.length ≤ 9223372036854775807) (some (St.next (((List.drop (Int.tmod v18 10).toNat (List.take (IntKind.i64.wrap ((Int.tmod v18 10) + 1)).toNat ([48, 49, 50, 51, 52, 53, 54, 55, 56, 57] : List UInt8))) ++ v17), (IntKind.i64.wrap (Int.tdiv v18 10)), (IntKind.i64.wrap (v19 + 1)))))) else some (St.done v17))
def m_r_ZText_l1 (a2 : List Int) (v6 : List UInt8) (v7 : Int) : Option (St ((List UInt8) × Int) (List UInt8)) := (if (decide (v7 < (a2.length : Int))) = true then ((ix a2 v7).bind fun v15 => (Loop (fun (s : (List UInt8) × Int × Int) => m_r_ZText_l2 s.1 s.2.1 s.2.2) (v6, v15, 0)).bind fun v27 => some (v27)).bind fun v28 => some (St.next (v28, (IntKind.i64.wrap (v7 + 1)))) else some (St.done v6))
def m_r_ZText_l3 (v31 : List UInt8) : Option (St (List UInt8) (List UInt8)) := (ix v31 0).bind fun v36 => (if ((v36.toNat : Int) == 48) = true then must ((0 : Int) ≤ 1 ∧ (1 : Int) ≤ (v31.length : Int)) (some (St.next (List.drop (1 : Int).toNat v31))) else some (St.done v31))
def m_r_ZText (a1 : Bool) (a2 : List Int) : Option (List UInt8) := (if ((a2.length : Int) == 0) = true then some ([48] : List UInt8) else ((Loop (fun (s : (List UInt8) × Int) => m_r_ZText_l1 a2 s.1 s.2) (([] : List UInt8), 0)).bind fun v29 => some (v29)).bind fun v30 => (Loop (fun (s : (List UInt8)) => m_r_ZText_l3 s) v30).bind fun v40 => (if a1 = true then must (([45] : List UInt8).length + v40.length ≤ 9223372036854775807) (some (([45] : List UInt8) ++ v40)) else some v40))
theorem C_r_ZText {a1 : Bool} {a2 : List Int} {r43 : List UInt8} (h : m_r_ZText a1 a2 = some r43) : CtrG PP 222 [] [D.agg ([D.bool a1, slcE (Enc.int .i64) a2])] [] (strD r43) := by
  unfold m_r_ZText at h
  refine .of Go.Proofs.Tryz.func222 rfl (by kernel_rfl) rfl rfl rfl rfl rfl rfl (fun A w0 L b => ?_)
  show Ok PP _ [(0, D.agg ([D.bool a1, slcE (Enc.int .i64) a2]))] [] _ _
  refine .reg (.bxA rfl rfl <| .asg rfl <| .nil) rfl ?_
  refine .sq ?_
  refine .reg (.fa rfl f_ambleref01_Z_1 <| .ldE1 (slcE (Enc.int .i64) a2) rfl rfl ly_Lint rfl <| .lnE rfl is_Lint <| .cm rfl rfl rfl <| .nil) rfl ?_
  by_cases c3 : ((a2.length : Int) == 0) = true
  · replace h := ite_pos_some c3 h
    refine .cTb rfl c3 ?_
    refine .reg (.asg rfl <| .nil) rfl ?_
    cases h
    refine .retG (fun _ _ hb => hb) rfl (.cons (.tmp rfl) .nil) (.refl _) trivial trivial
  · replace h := ite_neg_some c3 h
    refine .cFb rfl c3 ?_
    refine .skip (Ok.on ?_)
    refine .reg (.asg rfl <| .nil) rfl ?_
    obtain ⟨v30, hp5, h⟩ := bind_some h
    refine .cutX (fun i => v30 = i) (fun (i : (List UInt8)) => [(1, D.ref 1 0), (3, strD i)]) (fun (i : (List UInt8)) => [(1, Hp.box 35 ([D.bool a1, slcE (Enc.int .i64) a2]))]) ?_ ?_
    · have ho1 := h
      clear h
      have h := hp5
      clear hp5
      refine .reg (.asg rfl <| .nil) rfl ?_
      obtain ⟨o8, hl9, h⟩ := bind_some h
      have ho2 := h
      clear h
      refine .block (.loopL (fun (s : (List UInt8) × Int) => [(1, D.ref 1 0), (3, strD s.1), (4, D.int .i64 s.2)]) (fun (s : (List UInt8) × Int) => [(1, Hp.box 35 ([D.bool a1, slcE (Enc.int .i64) a2]))]) hl9 ⟨⟨_, rfl, .refl _⟩, ⟨_, rfl, .refl _⟩, ⟨_, rfl, .refl _⟩, trivial⟩ ⟨⟨_, rfl, .refl _⟩, trivial⟩ rfl rfl ?_)
      rintro ⟨v6, v7⟩ st10 hb11
      have h : m_r_ZText_l1 a2 v6 v7 = some st10 := hb11
      clear hb11
      unfold m_r_ZText_l1 at h
      show Ok PP _ [(1, D.ref 1 0), (3, strD v6), (4, D.int .i64 v7)] [(1, Hp.box 35 ([D.bool a1, slcE (Enc.int .i64) a2]))] _ _
      refine .sq ?_
      refine .reg (.mv rfl <| .fa rfl f_ambleref01_Z_1 <| .ldE1 (slcE (Enc.int .i64) a2) rfl rfl ly_Lint rfl <| .lnE rfl is_Lint <| .cm rfl rfl rfl <| .nil) rfl ?_
      by_cases c12 : (decide (v7 < (a2.length : Int))) = true
      · replace h := ite_pos_some c12 h
        refine .cTb rfl c12 ?_
        refine .skip (Ok.on ?_)
        obtain ⟨v28, hp14, h⟩ := bind_some h
        refine .cutX (fun i => v28 = i) (fun (i : (List UInt8)) => [(1, D.ref 1 0), (3, strD i), (4, D.int .i64 v7)]) (fun (i : (List UInt8)) => [(1, Hp.box 35 ([D.bool a1, slcE (Enc.int .i64) a2]))]) ?_ ?_
        · have ho3 := h
          clear h
          have h := hp14
          clear hp14
          refine .block ?_
          obtain ⟨v15, e16, h⟩ := bind_some h
          refine .reg (.fa rfl f_ambleref01_Z_1 <| .ldE1 (slcE (Enc.int .i64) a2) rfl rfl ly_Lint rfl <| .mv rfl <| .ixE rfl rfl se_Lint (ix_some e16).1 (ix_some e16).2 <| .lp1 rfl ly_int <| .asg rfl <| .nil) rfl ?_
          refine .reg (.asg rfl <| .nil) rfl ?_
          obtain ⟨o20, hl21, h⟩ := bind_some h
          have ho4 := h
          clear h
          refine .block (.loopL (fun (s : (List UInt8) × Int × Int) => [(1, D.ref 1 0), (3, strD s.1), (4, D.int .i64 v7), (5, D.int .i64 s.2.1), (6, D.int .i64 s.2.2)]) (fun (s : (List UInt8) × Int × Int) => [(1, Hp.box 35 ([D.bool a1, slcE (Enc.int .i64) a2]))]) hl21 ⟨⟨_, rfl, .refl _⟩, ⟨_, rfl, .refl _⟩, ⟨_, rfl, .refl _⟩, ⟨_, rfl, .refl _⟩, ⟨_, rfl, .refl _⟩, trivial⟩ ⟨⟨_, rfl, .refl _⟩, trivial⟩ rfl rfl ?_)
          rintro ⟨v17, v18, v19⟩ st22 hb23
          have h : m_r_ZText_l2 v17 v18 v19 = some st22 := hb23
          clear hb23
          unfold m_r_ZText_l2 at h
          show Ok PP _ [(1, D.ref 1 0), (3, strD v17), (4, D.int .i64 v7), (5, D.int .i64 v18), (6, D.int .i64 v19)] [(1, Hp.box 35 ([D.bool a1, slcE (Enc.int .i64) a2]))] _ _
          refine .sq ?_
          refine .reg (.mv rfl <| .cm rfl rfl rfl <| .nil) rfl ?_
          by_cases c24 : (decide (v19 < 4)) = true
          · replace h := ite_pos_some c24 h
            refine .cTb rfl c24 ?_
            refine .skip (Ok.on ?_)
            refine .sq ?_
            refine .block ?_
            obtain ⟨k25, h⟩ := must_some h
            obtain ⟨k26, h⟩ := must_some h
            refine .reg (.mv rfl <| .ar rfl rfl (irem (by decide)) <| .mv rfl <| .ar rfl rfl (irem (by decide)) <| .ar rfl rfl rfl <| .tlh rfl rfl rfl is_string k25.1 k25.2.1 k25.2.2 <| .mv rfl <| .tcat rfl rfl k26 <| .asg rfl <| .nil) rfl ?_
            refine .region (.mv rfl <| .ar rfl rfl (iquo (by decide)) <| .asg rfl <| .nil) rfl (Ok.on ?_)
            refine .region (.mv rfl <| .ar rfl rfl rfl <| .asg rfl <| .nil) rfl (fun _ _ hs => ⟨(((List.drop (Int.tmod v18 10).toNat (List.take (IntKind.i64.wrap ((Int.tmod v18 10) + 1)).toNat ([48, 49, 50, 51, 52, 53, 54, 55, 56, 57] : List UInt8))) ++ v17), (IntKind.i64.wrap (Int.tdiv v18 10)), (IntKind.i64.wrap (v19 + 1))), (Option.some.inj h).symm, hs.sub ⟨⟨_, rfl, .refl _⟩, ⟨_, rfl, .refl _⟩, ⟨_, rfl, .refl _⟩, ⟨_, rfl, .refl _⟩, ⟨_, rfl, .refl _⟩, trivial⟩ ⟨⟨_, rfl, .refl _⟩, trivial⟩ rfl rfl⟩)
          · replace h := ite_neg_some c24 h
            refine .cFb rfl c24 ?_
            refine .exit (fun a w hs => ⟨_, (Option.some.inj h).symm, fun e => by subst e; have h := ho4; exact blk_exit (⟨v17, (Option.some.inj h).symm, hs.sub ⟨⟨_, rfl, .refl _⟩, ⟨_, rfl, .refl _⟩, ⟨_, rfl, .refl _⟩, trivial⟩ ⟨⟨_, rfl, .refl _⟩, trivial⟩ rfl rfl⟩)⟩)
        · rintro _ rfl
          show Ok PP _ [(1, D.ref 1 0), (3, strD v28), (4, D.int .i64 v7)] [(1, Hp.box 35 ([D.bool a1, slcE (Enc.int .i64) a2]))] _ _
          refine .region (.mv rfl <| .ar rfl rfl rfl <| .asg rfl <| .nil) rfl (fun _ _ hs => ⟨(v28, (IntKind.i64.wrap (v7 + 1))), (Option.some.inj h).symm, hs.sub ⟨⟨_, rfl, .refl _⟩, ⟨_, rfl, .refl _⟩, ⟨_, rfl, .refl _⟩, trivial⟩ ⟨⟨_, rfl, .refl _⟩, trivial⟩ rfl rfl⟩)
      · replace h := ite_neg_some c12 h
        refine .cFb rfl c12 ?_
        refine .exit (fun a w hs => ⟨_, (Option.some.inj h).symm, fun e => by subst e; have h := ho2; exact blk_exit (⟨v6, (Option.some.inj h).symm, hs.sub ⟨⟨_, rfl, .refl _⟩, ⟨_, rfl, .refl _⟩, trivial⟩ ⟨⟨_, rfl, .refl _⟩, trivial⟩ rfl rfl⟩)⟩)
    · rintro _ rfl
      show Ok PP _ [(1, D.ref 1 0), (3, strD v30)] [(1, Hp.box 35 ([D.bool a1, slcE (Enc.int .i64) a2]))] _ _
      obtain ⟨v40, hl33, h⟩ := bind_some h
      refine .cutX (fun i => v40 = i) (fun (i : (List UInt8)) => [(1, D.ref 1 0), (3, strD i)]) (fun (i : (List UInt8)) => [(1, Hp.box 35 ([D.bool a1, slcE (Enc.int .i64) a2]))]) ?_ ?_
      · have ho1 := h
        clear h
        refine .block (.loopL (fun (s : (List UInt8)) => [(1, D.ref 1 0), (3, strD s)]) (fun (s : (List UInt8)) => [(1, Hp.box 35 ([D.bool a1, slcE (Enc.int .i64) a2]))]) hl33 ⟨⟨_, rfl, .refl _⟩, ⟨_, rfl, .refl _⟩, trivial⟩ ⟨⟨_, rfl, .refl _⟩, trivial⟩ rfl rfl ?_)
        rintro v31 st34 hb35
        have h : m_r_ZText_l3 v31 = some st34 := hb35
        clear hb35
        unfold m_r_ZText_l3 at h
        show Ok PP _ [(1, D.ref 1 0), (3, strD v31)] [(1, Hp.box 35 ([D.bool a1, slcE (Enc.int .i64) a2]))] _ _
        refine .sq ?_
        obtain ⟨v36, e37, h⟩ := bind_some h
        refine .reg (.mv rfl <| .tix rfl rfl is_string (ix_some e37).1 (ix_some e37).2 <| .cm rfl rfl rfl <| .nil) rfl ?_
        by_cases c38 : ((v36.toNat : Int) == 48) = true
        · replace h := ite_pos_some c38 h
          refine .cTb rfl c38 ?_
          refine .skip (Ok.on ?_)
          refine .block ?_
          obtain ⟨k39, h⟩ := must_some h
          refine .region (.mv rfl <| .tlo rfl rfl is_string k39.1 k39.2 <| .asg rfl <| .nil) rfl (fun _ _ hs => ⟨(List.drop (1 : Int).toNat v31), (Option.some.inj h).symm, hs.sub ⟨⟨_, rfl, .refl _⟩, ⟨_, rfl, .refl _⟩, trivial⟩ ⟨⟨_, rfl, .refl _⟩, trivial⟩ rfl rfl⟩)
        · replace h := ite_neg_some c38 h
          refine .cFb rfl c38 ?_
          refine .exit (fun _ _ hs => ⟨_, (Option.some.inj h).symm, fun e => ⟨v31, e.symm, hs.sub ⟨⟨_, rfl, .refl _⟩, ⟨_, rfl, .refl _⟩, trivial⟩ ⟨⟨_, rfl, .refl _⟩, trivial⟩ rfl rfl⟩⟩)
      · rintro _ rfl
        show Ok PP _ [(1, D.ref 1 0), (3, strD v40)] [(1, Hp.box 35 ([D.bool a1, slcE (Enc.int .i64) a2]))] _ _
        refine .sq ?_
        refine .reg (.fa rfl f_ambleref01_Z_0 <| .ldE1 (D.bool a1) rfl rfl ly_bool rfl <| .nil) rfl ?_
        by_cases c41 : a1 = true
        · replace h := ite_pos_some c41 h
          refine .cTb rfl c41 ?_
          obtain ⟨k42, h⟩ := must_some h
          refine .reg (.mv rfl <| .tcat rfl rfl k42 <| .asg rfl <| .nil) rfl ?_
          cases h
          refine .retG (fun _ _ hb => hb) rfl (.cons (.tmp rfl) .nil) (.refl _) trivial trivial
        · replace h := ite_neg_some c41 h
          refine .cFb rfl c41 ?_
          refine .skip (Ok.on ?_)
          refine .reg (.mv rfl <| .asg rfl <| .nil) rfl ?_
          cases h
          refine .retG (fun _ _ hb => hb) rfl (.cons (.tmp rfl) .nil) (.refl _) trivial trivial
end
end Go.Am
namespace Go.Am
open Go.RowKit
theorem div_pow_succ (x i : Nat) : x / 10000 ^ (i + 1) = x / 10000 ^ i / 10000 := by rw [Nat.pow_succ, Nat.div_div_eq_div_mul]
theorem pow_pos' (i : Nat) : 0 < 10000 ^ i := Nat.pow_pos (by decide)
theorem dg10_lt : ∀ (i x : Nat), i < (dg10 x).length ↔ x / 10000 ^ i ≠ 0
  | i, x => by
    by_cases h : x = 0
    · subst h; rw [dg10_zero, Nat.zero_div]; simp
    · rw [dg10_pos h, List.length_cons]
      cases i with
      | zero => simp [h]
      | succ i =>
        have := dg10_lt i (x / 10000)
        rw [Nat.div_div_eq_div_mul, Nat.mul_comm, ← Nat.pow_succ] at this
        rw [← this]; omega
theorem dg10_get : ∀ (i x : Nat), i < (dg10 x).length → (dg10 x)[i]? = some ((x / 10000 ^ i % 10000 : Nat) : Int)
  | i, x, h => by
    have h0 : x ≠ 0 := by intro e; subst e; rw [dg10_zero] at h; simp at h
    rw [dg10_pos h0] at h ⊢
    cases i with
    | zero => simp
    | succ i =>
      rw [List.getElem?_cons_succ, dg10_get i (x / 10000) (by simpa using h), Nat.div_div_eq_div_mul, Nat.mul_comm, ← Nat.pow_succ]
theorem dg10_ix {i x : Nat} (h : i < (dg10 x).length) : ix (dg10 x) (i : Int) = some ((x / 10000 ^ i % 10000 : Nat) : Int) := by
  unfold ix
  rw [if_pos (by omega), Int.toNat_natCast, dg10_get i x h]
theorem dg10_top (x : Nat) : x / 10000 ^ (dg10 x).length = 0 := by
  have := (dg10_lt (dg10 x).length x)
  simp only [Nat.lt_irrefl, false_iff, ne_eq, Classical.not_not] at this
  exact this
theorem dg10_bd (x : Nat) : x < 10000 ^ (dg10 x).length := by
  have := dg10_top x
  rw [Nat.div_eq_zero_iff] at this
  rcases this with h | h
  · exact absurd h (Nat.ne_of_gt (pow_pos' _))
  · exact h
theorem dg10_len_of {x n : Nat} (h : x < 10000 ^ n) : (dg10 x).length ≤ n := by
  apply Nat.le_of_not_lt
  intro hc
  exact (dg10_lt n x).1 hc (Nat.div_eq_of_lt h)
theorem dg10_ge {x n : Nat} (h : n < (dg10 x).length) : 10000 ^ n ≤ x := by
  have := (dg10_lt n x).1 h
  apply Nat.le_of_not_lt
  intro hc
  exact this (Nat.div_eq_of_lt hc)
theorem dg10_blen (x : Nat) : (dg10 x).length ≤ blen x := by
  apply dg10_len_of
  refine Nat.lt_of_lt_of_le (blen_lt x) (Nat.pow_le_pow_left (by decide) _)
theorem dg10_len {x : Nat} (h : sm x) : (dg10 x).length ≤ 4398046511104 := Nat.le_trans (dg10_blen x) h
theorem dg10_len0 {x : Nat} : (dg10 x).length = 0 ↔ x = 0 := by
  constructor
  · intro h
    have := dg10_bd x
    rw [h] at this; simpa using this
  · rintro rfl; rw [dg10_zero]; rfl
def v10 : List Int → Int
  | [] => 0
  | d :: l => d + 10000 * v10 l
def ok10 (l : List Int) : Prop := ∀ d ∈ l, 0 ≤ d ∧ d < 10000
theorem ok10_nil : ok10 [] := by intro d h; cases h
theorem ok10_cons {d : Int} {l : List Int} : ok10 (d :: l) ↔ (0 ≤ d ∧ d < 10000) ∧ ok10 l := by simp [ok10]
theorem ok10_append {l m : List Int} : ok10 (l ++ m) ↔ ok10 l ∧ ok10 m := by
  simp only [ok10, List.mem_append]; constructor
  · exact fun h => ⟨fun d k => h d (.inl k), fun d k => h d (.inr k)⟩
  · rintro ⟨h, k⟩ d (hd | hd)
    · exact h d hd
    · exact k d hd
theorem dg10_ok : ∀ x, ok10 (dg10 x)
  | x => by
    by_cases h : x = 0
    · subst h; rw [dg10_zero]; exact ok10_nil
    · rw [dg10_pos h, ok10_cons]
      exact ⟨by omega, dg10_ok (x / 10000)⟩
termination_by x => x
decreasing_by exact Nat.div_lt_self (by omega) (by omega)
theorem v10_dg10 : ∀ x : Nat, v10 (dg10 x) = x
  | x => by
    by_cases h : x = 0
    · subst h; rw [dg10_zero]; rfl
    · rw [dg10_pos h, v10, v10_dg10 (x / 10000)]; omega
termination_by x => x
decreasing_by exact Nat.div_lt_self (by omega) (by omega)
theorem v10_nonneg : ∀ {l : List Int}, ok10 l → 0 ≤ v10 l
  | [], _ => by simp [v10]
  | d :: l, h => by
    have := v10_nonneg (ok10_cons.1 h).2
    have := (ok10_cons.1 h).1
    rw [v10]; omega
theorem v10_append : ∀ (l m : List Int), v10 (l ++ m) = v10 l + ((10000 ^ l.length : Nat) : Int) * v10 m
  | [], m => by simp [v10]
  | d :: l, m => by
    rw [List.cons_append, v10, v10_append l m, v10, List.length_cons, Nat.pow_succ, Nat.mul_comm (10000 ^ l.length), Int.natCast_mul, Int.mul_add, Int.mul_assoc, Int.add_assoc]; rfl
theorem v10_lt : ∀ {l : List Int}, ok10 l → v10 l < ((10000 ^ l.length : Nat) : Int)
  | [], _ => by simp [v10]
  | d :: l, h => by
    have h1 := v10_lt (ok10_cons.1 h).2
    have := (ok10_cons.1 h).1
    rw [v10, List.length_cons, Nat.pow_succ]
    generalize 10000 ^ l.length = p at *
    omega
theorem v10_rep : ∀ n, v10 (List.replicate n 0) = 0
  | 0 => rfl
  | n + 1 => by rw [List.replicate_succ, v10, v10_rep n]; rfl
theorem ok10_rep (n : Nat) : ok10 (List.replicate n 0) := by
  intro d h
  have := List.eq_of_mem_replicate h
  omega
theorem ok10_set : ∀ {l : List Int} {k : Nat} {d : Int}, ok10 l → 0 ≤ d → d < 10000 → ok10 (l.set k d)
  | [], _, _, h, _, _ => h
  | e :: l, 0, d, h, h1, h2 => ok10_cons.2 ⟨⟨h1, h2⟩, (ok10_cons.1 h).2⟩
  | e :: l, k + 1, d, h, h1, h2 => ok10_cons.2 ⟨(ok10_cons.1 h).1, ok10_set (ok10_cons.1 h).2 h1 h2⟩
theorem v10_set : ∀ {l : List Int} {k : Nat} {d : Int} (h : k < l.length), v10 (l.set k d) = v10 l + ((10000 ^ k : Nat) : Int) * (d - l[k])
  | [], k, _, h => by simp at h
  | e :: l, 0, d, h => by simp only [List.set_cons_zero, v10, Nat.pow_zero, List.getElem_cons_zero]; omega
  | e :: l, k + 1, d, h => by
    have := v10_set (l := l) (k := k) (d := d) (by simpa using h)
    simp only [List.set_cons_succ, v10, List.getElem_cons_succ]
    rw [this, Nat.pow_succ, Nat.mul_comm (10000 ^ k), Int.natCast_mul, Int.mul_add, Int.mul_assoc]
    omega
theorem dg10_v10 : ∀ {l : List Int}, ok10 l → (∀ d, l.getLast? = some d → d ≠ 0) → dg10 (v10 l).toNat = l
  | [], _, _ => by rw [v10]; exact dg10_zero
  | [d], h, hl => by
    have h0 := hl d rfl
    have h1 := (ok10_cons.1 h).1
    have e : (v10 [d]).toNat = d.toNat := by simp [v10]
    rw [e, dg10_pos (by omega), Nat.div_eq_of_lt (by omega), dg10_zero, Nat.mod_eq_of_lt (by omega)]
    congr 1; omega
  | d :: e :: l, h, hl => by
    have h1 := (ok10_cons.1 h).1
    have h2 := (ok10_cons.1 h).2
    have ih := dg10_v10 h2 (fun d hd => hl d (by rw [List.getLast?_cons_cons]; exact hd))
    have hp : (v10 (e :: l)).toNat ≠ 0 := by
      intro h0
      rw [h0, dg10_zero] at ih; cases ih
    have hn := v10_nonneg h2
    rw [v10]
    generalize v10 (e :: l) = w at *
    have e1 : (d + 10000 * w).toNat = d.toNat + 10000 * w.toNat := by omega
    rw [e1, dg10_pos (by omega)]
    have e2 : (d.toNat + 10000 * w.toNat) / 10000 = w.toNat := by omega
    have e3 : (((d.toNat + 10000 * w.toNat) % 10000 : Nat) : Int) = d := by omega
    rw [e2, e3, ih]
theorem v10_take_last {l : List Int} (h : l ≠ []) (hz : l[l.length - 1]? = some 0) : v10 (l.take (l.length - 1)) = v10 l := by
  have hl : 0 < l.length := List.length_pos_iff.2 h
  have e : l = l.take (l.length - 1) ++ [0] := by
    have := List.take_append_drop (l.length - 1) l
    conv => lhs; rw [← this]
    congr 1
    rw [List.drop_eq_getElem_cons (by omega)]
    rw [List.getElem?_eq_getElem (by omega)] at hz
    injection hz with hz
    rw [hz, List.drop_eq_nil_of_le (by omega)]
  conv => rhs; rw [e]
  rw [v10_append]; simp [v10]
theorem trim_is (l : List Int) (h : ok10 l) (hl : l.length ≤ 9000000000000000) : m_r_trim l = some (dg10 (v10 l).toNat) := by
  unfold m_r_trim
  obtain ⟨r, hr, rfl⟩ := Loop_run (body := fun (s : (List Int)) => m_r_trim_l1 s) l (fun s => ok10 s ∧ v10 s = v10 l ∧ s.length ≤ l.length) (fun s => s.length) (fun r => r = dg10 (v10 l).toNat) ⟨h, rfl, Nat.le_refl _⟩ (by
    rintro s ⟨hs, hv, hsl⟩
    unfold m_r_trim_l1
    by_cases h0 : s.length = 0
    · right
      have : s = [] := List.length_eq_zero_iff.1 h0
      subst this
      rw [if_neg (by decide)]
      refine ⟨[], rfl, ?_⟩
      rw [← hv]; exact dg10_zero.symm
    · rw [if_pos (decide_eq_true (by omega))]
      have e1 : IntKind.i64.wrap ((s.length : Int) - 1) = ((s.length - 1 : Nat) : Int) := by rw [wrap_small (by omega) (by omega)]; omega
      rw [e1, ix_get (by omega), Option.bind_some]
      by_cases hz : s[s.length - 1] = 0
      · left
        rw [if_pos (by rw [beq_iff_eq]; exact hz)]
        refine ⟨_, must_of ⟨by omega, by omega⟩ rfl, ⟨?_, ?_, ?_⟩, ?_⟩
        · rw [Int.toNat_natCast]; exact fun d hd => hs d (List.mem_of_mem_take hd)
        · rw [Int.toNat_natCast, v10_take_last (by intro e; rw [e] at h0; exact h0 rfl) (by rw [List.getElem?_eq_getElem (by omega), hz]), hv]
        · rw [Int.toNat_natCast, List.length_take]; omega
        · rw [Int.toNat_natCast, List.length_take]; omega
      · right
        rw [if_neg (by rw [beq_iff_eq]; exact hz)]
        refine ⟨s, rfl, ?_⟩
        rw [← hv]
        refine (dg10_v10 hs ?_).symm
        intro d hd
        rw [List.getLast?_eq_getElem?, List.getElem?_eq_getElem (by omega)] at hd
        injection hd with hd
        rw [← hd]; exact hz)
  rw [hr]; rfl
end Go.Am
namespace Go.Am
open Go.RowKit
theorem ix_dg {x i : Nat} (h : i < (dg10 x).length) {j : Int} (hj : j = (i : Int)) : ix (dg10 x) j = some ((x / 10000 ^ i % 10000 : Nat) : Int) := by rw [hj, dg10_ix h]
theorem i64_in {n : Int} (h : -9223372036854775808 ≤ n ∧ n < 9223372036854775808) : IntKind.i64.wrap n = n := wrap_small h.1 h.2
theorem ZInt_is (n : Int) (h : i64r n) : m_r_ZInt n = some (decide (n < 0), dg10 n.natAbs) := by
  unfold m_r_ZInt
  obtain ⟨r, hr, rfl⟩ := Loop_run (body := fun (s : Int × (List Int)) => m_r_ZInt_l1 s.1 s.2) (n, []) (fun s => i64r s.1 ∧ s.2 ++ dg10 s.1.natAbs = dg10 n.natAbs) (fun s => s.1.natAbs) (fun r => r = dg10 n.natAbs) ⟨h, rfl⟩ (by
    rintro ⟨x, b⟩ ⟨hx, hb⟩
    simp only at hx hb ⊢
    unfold m_r_ZInt_l1
    unfold i64r at hx
    by_cases h0 : x = 0
    · right
      subst h0
      refine ⟨b, rfl, ?_⟩
      rw [show Int.natAbs 0 = 0 from rfl, dg10_zero, List.append_nil] at hb; exact hb
    · left
      have hc : (x != 0) = true := by rw [bne_iff_ne]; exact h0
      rw [if_pos hc]
      have e1 : Int.tmod x 10000 = if x < 0 then -((x.natAbs % 10000 : Nat) : Int) else ((x.natAbs % 10000 : Nat) : Int) := by
        by_cases hn : x < 0
        · rw [if_pos hn]
          have : x = -(x.natAbs : Int) := by omega
          conv => lhs; rw [this]
          rw [Int.neg_tmod, Int.tmod_eq_emod_of_nonneg (by omega)]; omega
        · rw [if_neg hn, Int.tmod_eq_emod_of_nonneg (by omega)]; omega
      have e2 : Int.tdiv x 10000 = if x < 0 then -((x.natAbs / 10000 : Nat) : Int) else ((x.natAbs / 10000 : Nat) : Int) := by
        by_cases hn : x < 0
        · rw [if_pos hn]
          have : x = -(x.natAbs : Int) := by omega
          conv => lhs; rw [this]
          rw [Int.neg_tdiv, Int.tdiv_eq_ediv_of_nonneg (by omega)]; omega
        · rw [if_neg hn, Int.tdiv_eq_ediv_of_nonneg (by omega)]; omega
      have hd : (if (decide ((Int.tmod x 10000) < 0)) = true then some ((IntKind.i64.wrap (0 - (Int.tmod x 10000)))) else some ((Int.tmod x 10000))) = some ((x.natAbs % 10000 : Nat) : Int) := by
        rw [e1]
        by_cases hn : x < 0
        · rw [if_pos hn]
          by_cases hz : x.natAbs % 10000 = 0
          · rw [hz]; rfl
          · rw [if_pos (decide_eq_true (by omega)), i64_in (by omega)]; congr 1; omega
        · rw [if_neg hn, if_neg (by simp; omega)]
      rw [hd, Option.bind_some]
      have e3 : IntKind.i64.wrap (Int.tdiv x 10000) = Int.tdiv x 10000 := by rw [e2, i64_in]; split <;> omega
      have hx0 : x.natAbs ≠ 0 := by omega
      have e4 : (Int.tdiv x 10000).natAbs = x.natAbs / 10000 := by rw [e2]; split <;> omega
      rw [dg10_pos hx0] at hb
      have hbl : b.length + 1 ≤ 9223372036854 := by
        have h1 := congrArg List.length hb
        rw [List.length_append, List.length_cons] at h1
        have h2 := dg10_blen n.natAbs
        have h3 : blen n.natAbs ≤ 64 := blen_small (by unfold i64r at h; omega)
        omega
      rw [e3]
      refine ⟨_, must_of ⟨by simp only [List.length_cons, List.length_nil]; omega, by simp only [List.length_cons, List.length_nil]; omega⟩ rfl, ⟨?_, ?_⟩, ?_⟩
      · simp only; rw [e2]; unfold i64r; split <;> omega
      · simp only; rw [e4, ← hb, List.append_assoc]; rfl
      · simp only; rw [e4]; exact Nat.div_lt_self (by omega) (by decide))
  rw [hr]; rfl
theorem dig_lt {X Y : Nat} (h : X / 10000 = Y / 10000) : ((X % 10000 : Nat) : Int) < ((Y % 10000 : Nat) : Int) ↔ X < Y := by omega
theorem abs_is (x y : Nat) (hx : sm x) (hy : sm y) : m_r_abs (dg10 x) (dg10 y) = some (cmpn x y) := by
  have lx := dg10_len hx
  have ly := dg10_len hy
  unfold m_r_abs
  by_cases hl : (((dg10 x).length : Int) != ((dg10 y).length : Int)) = true
  · rw [if_pos hl]
    rw [bne_iff_ne] at hl
    by_cases hlt : (dg10 x).length < (dg10 y).length
    · rw [if_pos (decide_eq_true (by omega))]
      have h1 := dg10_bd x
      have h2 := dg10_ge hlt
      unfold cmpn; rw [if_pos (by omega)]
    · rw [if_neg (by simp; omega)]
      have h1 := dg10_bd y
      have h2 := dg10_ge (show (dg10 y).length < (dg10 x).length by omega)
      unfold cmpn; rw [if_neg (by omega), if_pos (by omega)]
  · rw [if_neg hl]
    have hle : (dg10 x).length = (dg10 y).length := by
      rw [bne_iff_ne, ne_eq, Classical.not_not] at hl; omega
    have e1 : IntKind.i64.wrap (((dg10 x).length : Int) - 1) = ((dg10 x).length : Int) - 1 := i64_in (by omega)
    rw [e1]
    obtain ⟨r, hr, hq⟩ := Loop_run (body := fun (s : Int) => m_r_abs_l1 (dg10 x) (dg10 y) s) (((dg10 x).length : Int) - 1) (fun s => ∃ k : Nat, s = (k : Int) - 1 ∧ k ≤ (dg10 x).length ∧ x / 10000 ^ k = y / 10000 ^ k) (fun s => (s + 1).toNat) (fun r => (x = y ∧ r = Ex.brk ()) ∨ (x ≠ y ∧ r = Ex.ret (cmpn x y))) ⟨_, rfl, Nat.le_refl _, by rw [dg10_top, hle, dg10_top]⟩ (by
      rintro s ⟨k, rfl, hk, he⟩
      unfold m_r_abs_l1
      cases k with
      | zero =>
        right
        rw [if_neg (by simp)]
        refine ⟨_, rfl, .inl ⟨?_, rfl⟩⟩
        simpa using he
      | succ k =>
        have ek : ((k + 1 : Nat) : Int) - 1 = (k : Int) := by omega
        rw [ek, if_pos (decide_eq_true (by omega)), ix_dg (by omega) rfl, Option.bind_some, ix_dg (by omega) rfl, Option.bind_some]
        rw [div_pow_succ, div_pow_succ] at he
        have hmx := Nat.div_add_mod x (10000 ^ k)
        have hmy := Nat.div_add_mod y (10000 ^ k)
        have hlx := Nat.mod_lt x (pow_pos' k)
        have hly := Nat.mod_lt y (pow_pos' k)
        have hmono : ∀ a b : Nat, a / 10000 ^ k < b / 10000 ^ k → a < b := by
          intro a b h
          apply Nat.lt_of_not_le
          intro hc
          exact Nat.lt_irrefl _ (Nat.lt_of_lt_of_le h (Nat.div_le_div_right hc))
        by_cases hd : x / 10000 ^ k = y / 10000 ^ k
        · left
          rw [if_neg (by rw [hd]; simp)]
          refine ⟨_, rfl, ⟨k, ?_, by omega, hd⟩, ?_⟩
          · exact i64_in (by omega)
          · rw [i64_in (by omega)]; omega
        · right
          have hne : x ≠ y := fun h => hd (by rw [h])
          have hnd : x / 10000 ^ k % 10000 ≠ y / 10000 ^ k % 10000 := by
            intro h; apply hd; omega
          rw [if_pos (by rw [bne_iff_ne]; omega), Option.bind_some, Option.bind_some]
          by_cases hlt : x / 10000 ^ k < y / 10000 ^ k
          · rw [if_pos (decide_eq_true ((dig_lt he).2 hlt))]
            refine ⟨_, rfl, .inr ⟨hne, ?_⟩⟩
            have := hmono _ _ hlt
            unfold cmpn; rw [if_pos this]
          · rw [if_neg (fun h => hlt ((dig_lt he).1 (of_decide_eq_true h)))]
            refine ⟨_, rfl, .inr ⟨hne, ?_⟩⟩
            have := hmono y x (Nat.lt_of_le_of_ne (Nat.le_of_not_lt hlt) (Ne.symm hd))
            unfold cmpn; rw [if_neg (by omega), if_pos this])
    rw [hr]
    rcases hq with ⟨h, rfl⟩ | ⟨h, rfl⟩
    · subst h
      simp only [Option.bind_some, cmpn]; simp
    · rfl
theorem plus_step (dx dy tgt out : List Int) (c i X Y : Nat) (hc1 : c ≤ 1) (gx : i < dx.length ↔ X ≠ 0) (gy : i < dy.length ↔ Y ≠ 0) (ex : i < dx.length → ix dx (i : Int) = some ((X % 10000 : Nat) : Int)) (ey : i < dy.length → ix dy (i : Int) = some ((Y % 10000 : Nat) : Int))
    (lt : tgt.length ≤ 4398046511105) (ho : out ++ dg10 (c + X + Y) = tgt) (hl : out.length = i) :
    (∃ c' out', m_r_plus_l1 dx dy (c : Int) (i : Int) out = some (.next (((c' : Nat) : Int), ((i + 1 : Nat) : Int), out')) ∧ c' ≤ 1 ∧ i + 1 ≤ 4398046511105 ∧ out' ++ dg10 (c' + X / 10000 + Y / 10000) = tgt ∧ out'.length = i + 1) ∨
    (m_r_plus_l1 dx dy (c : Int) (i : Int) out = some (.done out) ∧ out = tgt) := by
  unfold m_r_plus_l1
  by_cases hz : X = 0 ∧ Y = 0 ∧ c = 0
  · right
    obtain ⟨rfl, rfl, rfl⟩ := hz
    have h3 : ¬ i < dx.length := fun h => gx.1 h rfl
    have h4 : ¬ i < dy.length := fun h => gy.1 h rfl
    rw [if_neg (by simp; omega), if_neg (by simp; omega), if_neg (by decide), Option.bind_some]
    refine ⟨rfl, ?_⟩
    rw [dg10_zero, List.append_nil] at ho; exact ho
  · left
    have hgo : (if (decide ((i : Int) < (dx.length : Int))) = true then some (Ex.brk ()) else (if (decide ((i : Int) < (dy.length : Int))) = true then some (Ex.brk ()) else (if (decide ((c : Int) > 0)) = true then some (Ex.brk ()) else some (Ex.ret ()))) : Option (Ex Unit Unit)) = some (Ex.brk ()) := by
      by_cases h1 : i < dx.length
      · rw [if_pos (decide_eq_true (by omega))]
      · rw [if_neg (by simp; omega)]
        by_cases h2 : i < dy.length
        · rw [if_pos (decide_eq_true (by omega))]
        · rw [if_neg (by simp; omega), if_pos (decide_eq_true ?_)]
          have h3 : X = 0 := Classical.byContradiction fun h => h1 (gx.2 h)
          have h4 : Y = 0 := Classical.byContradiction fun h => h2 (gy.2 h)
          have : c ≠ 0 := fun h => hz ⟨h3, h4, h⟩
          omega
    rw [hgo, Option.bind_some]
    dsimp only
    have hR : c + X + Y ≠ 0 := fun h => hz ⟨by omega, by omega, by omega⟩
    have e1 : (if (decide ((i : Int) < (dx.length : Int))) = true then (ix dx (i : Int)).bind fun v20 => some ((IntKind.i64.wrap ((c : Int) + v20))) else some ((c : Int))) = some (((c + X % 10000 : Nat)) : Int) := by
      by_cases h1 : i < dx.length
      · rw [if_pos (decide_eq_true (by omega)), ex h1, Option.bind_some, i64_in (by omega)]; congr 1
      · have h3 : X = 0 := Classical.byContradiction fun h => h1 (gx.2 h)
        rw [if_neg (by simp; omega), h3]; rfl
    rw [e1, Option.bind_some]
    have e2 : (if (decide ((i : Int) < (dy.length : Int))) = true then (ix dy (i : Int)).bind fun v26 => some ((IntKind.i64.wrap (((c + X % 10000 : Nat) : Int) + v26))) else some (((c + X % 10000 : Nat) : Int))) = some (((c + X % 10000 + Y % 10000 : Nat)) : Int) := by
      by_cases h1 : i < dy.length
      · rw [if_pos (decide_eq_true (by omega)), ey h1, Option.bind_some, i64_in (by omega)]; congr 1
      · have h3 : Y = 0 := Classical.byContradiction fun h => h1 (gy.2 h)
        rw [if_neg (by simp; omega), h3]; rfl
    rw [e2, Option.bind_some]
    rw [dg10_pos hR] at ho
    have hol := congrArg List.length ho
    rw [List.length_append, List.length_cons] at hol
    have hi1 : i + 1 ≤ 4398046511105 := by omega
    have e3 : Int.tmod ((c + X % 10000 + Y % 10000 : Nat) : Int) 10000 = (((c + X + Y) % 10000 : Nat) : Int) := by
      rw [Int.tmod_eq_emod_of_nonneg (by omega)]; omega
    have e4 : IntKind.i64.wrap (Int.tdiv ((c + X % 10000 + Y % 10000 : Nat) : Int) 10000) = (((c + X % 10000 + Y % 10000) / 10000 : Nat) : Int) := by
      rw [Int.tdiv_eq_ediv_of_nonneg (by omega), i64_in (by omega)]; omega
    have e5 : IntKind.i64.wrap ((i : Int) + 1) = ((i + 1 : Nat) : Int) := by rw [i64_in (by omega)]; omega
    rw [e3, e4, e5]
    refine ⟨_, _, must_of ⟨by simp only [List.length_cons, List.length_nil]; omega, by simp only [List.length_cons, List.length_nil]; omega⟩ rfl, by omega, hi1, ?_, by simp only [List.length_append, List.length_cons, List.length_nil]; omega⟩
    rw [← ho, List.append_assoc]
    rw [show (c + X % 10000 + Y % 10000) / 10000 + X / 10000 + Y / 10000 = (c + X + Y) / 10000 from by omega]
    rfl
theorem plus_is (x y : Nat) (hx : sm x) (hy : sm y) : m_r_plus (dg10 x) (dg10 y) = some (dg10 (x + y)) := by
  have lt : (dg10 (x + y)).length ≤ 4398046511105 := Nat.le_trans (dg10_blen _) (blen_add hx hy)
  unfold m_r_plus
  obtain ⟨r, hr, rfl⟩ := Loop_run (body := fun (s : Int × Int × (List Int)) => m_r_plus_l1 (dg10 x) (dg10 y) s.1 s.2.1 s.2.2) (0, 0, [])
    (fun s => ∃ c i : Nat, s.1 = (c : Int) ∧ s.2.1 = (i : Int) ∧ c ≤ 1 ∧ i ≤ 4398046511105 ∧ s.2.2 ++ dg10 (c + x / 10000 ^ i + y / 10000 ^ i) = dg10 (x + y) ∧ s.2.2.length = i)
    (fun s => (4398046511106 - s.2.1).toNat) (fun r => r = dg10 (x + y)) ⟨0, 0, rfl, rfl, by decide, by decide, by simp, rfl⟩ (by
    rintro ⟨c', i', out⟩ ⟨c, i, hc, hi, hc1, hi1, ho, hl⟩
    simp only at hc hi ho hl ⊢
    subst hc; subst hi
    have hm : (4398046511106 - ((i + 1 : Nat) : Int)).toNat < (4398046511106 - (i : Int)).toNat := by omega
    rcases plus_step (dg10 x) (dg10 y) _ out c i _ _ hc1 (dg10_lt i x) (dg10_lt i y) (fun h => dg10_ix h) (fun h => dg10_ix h) lt ho hl with ⟨c2, out2, e, h1, h2, h3, h4⟩ | ⟨e, h⟩
    · left
      refine ⟨_, e, ⟨c2, i + 1, rfl, rfl, h1, h2, ?_, h4⟩, hm⟩
      rw [div_pow_succ, div_pow_succ]; exact h3
    · right
      exact ⟨_, e, h⟩)
  rw [hr]; rfl
end Go.Am
namespace Go.Am
open Go.RowKit
theorem minus_step (dx dy out : List Int) (w i X Y : Nat) (T P : Int) (hw : w ≤ 1) (gx : i < dx.length ↔ X ≠ 0) (gy : i < dy.length ↔ Y ≠ 0) (ex : i < dx.length → ix dx (i : Int) = some ((X % 10000 : Nat) : Int)) (ey : i < dy.length → ix dy (i : Int) = some ((Y % 10000 : Nat) : Int))
    (lt : dx.length ≤ 4398046511105) (hP : P = ((10000 ^ i : Nat) : Int)) (hV : v10 out + P * ((X : Int) - Y - w) = T) (hok : ok10 out) (hl : out.length = i) (hi : i < dx.length) :
    ∃ w' d, m_r_minus_l1 dx dy (w : Int) (i : Int) out = some (.next (((w' : Nat) : Int), ((i + 1 : Nat) : Int), out ++ [d])) ∧ w' ≤ 1 ∧ v10 (out ++ [d]) + P * 10000 * (((X / 10000 : Nat) : Int) - ((Y / 10000 : Nat) : Int) - w') = T ∧ ok10 (out ++ [d]) ∧ (out ++ [d]).length = i + 1 := by
  unfold m_r_minus_l1
  have hi' : (i : Int) < (dx.length : Int) := by omega
  rw [if_pos (decide_eq_true hi'), ex hi, Option.bind_some]
  have e1 : (if (decide ((i : Int) < (dy.length : Int))) = true then (ix dy (i : Int)).bind fun v18 => some ((IntKind.i64.wrap ((IntKind.i64.wrap (((X % 10000 : Nat) : Int) - (w : Int))) - v18))) else some ((IntKind.i64.wrap (((X % 10000 : Nat) : Int) - (w : Int))))) = some (((X % 10000 : Nat) : Int) - (w : Int) - ((Y % 10000 : Nat) : Int)) := by
    have e0 : IntKind.i64.wrap (((X % 10000 : Nat) : Int) - (w : Int)) = ((X % 10000 : Nat) : Int) - (w : Int) := i64_in (by omega)
    by_cases h1 : i < dy.length
    · rw [if_pos (decide_eq_true (by omega)), ey h1, Option.bind_some, e0, i64_in (by omega)]
    · have h3 : Y = 0 := Classical.byContradiction fun h => h1 (gy.2 h)
      rw [if_neg (by simp; omega), e0, h3]; congr 1; omega
  rw [e1, Option.bind_some]
  have hol := hl
  have key : ∀ (w' : Nat) (d : Int), (X : Int) - Y - w = d + 10000 * (((X / 10000 : Nat) : Int) - ((Y / 10000 : Nat) : Int) - w') → v10 (out ++ [d]) + P * 10000 * (((X / 10000 : Nat) : Int) - ((Y / 10000 : Nat) : Int) - w') = T := by
    intro w' d h
    rw [h] at hV
    rw [v10_append, hl, ← hP, ← hV, Int.mul_add, Int.mul_assoc]
    rw [show v10 [d] = d from by simp [v10], Int.add_assoc]
  have hm : ∀ d : Int, (out.length + ([d]).length) * 8 ≤ 140737488355328 ∧ out.length + ([d]).length ≤ 9223372036854775807 := by
    intro d; simp only [List.length_cons, List.length_nil]; omega
  have e5 : IntKind.i64.wrap ((i : Int) + 1) = ((i + 1 : Nat) : Int) := by rw [i64_in (by omega)]; omega
  by_cases hn : ((X % 10000 : Nat) : Int) - (w : Int) - ((Y % 10000 : Nat) : Int) < 0
  · rw [if_pos (decide_eq_true hn), Option.bind_some]
    dsimp only
    have e6 : IntKind.i64.wrap (((X % 10000 : Nat) : Int) - (w : Int) - ((Y % 10000 : Nat) : Int) + 10000) = ((X % 10000 : Nat) : Int) - (w : Int) - ((Y % 10000 : Nat) : Int) + 10000 := i64_in (by omega)
    rw [e5, e6]
    refine ⟨1, _, must_of (hm _) rfl, by omega, key _ _ (by omega), ?_, by simp [hl]⟩
    rw [ok10_append, ok10_cons]
    exact ⟨hok, ⟨by omega, by omega⟩, ok10_nil⟩
  · rw [if_neg (by simpa using hn), Option.bind_some]
    dsimp only
    rw [e5]
    refine ⟨0, _, must_of (hm _) rfl, by omega, key _ _ (by omega), ?_, by simp [hl]⟩
    rw [ok10_append, ok10_cons]
    exact ⟨hok, ⟨by omega, by omega⟩, ok10_nil⟩
theorem minus_is (x y : Nat) (hx : sm x) (hyx : y ≤ x) : m_r_minus (dg10 x) (dg10 y) = some (dg10 (x - y)) := by
  have lx : (dg10 x).length ≤ 4398046511104 := dg10_len hx
  unfold m_r_minus
  obtain ⟨r, hr, hq⟩ := Loop_run (body := fun (s : Int × Int × (List Int)) => m_r_minus_l1 (dg10 x) (dg10 y) s.1 s.2.1 s.2.2) (0, 0, [])
    (fun s => ∃ w i : Nat, s.1 = (w : Int) ∧ s.2.1 = (i : Int) ∧ w ≤ 1 ∧ i ≤ (dg10 x).length ∧ v10 s.2.2 + ((10000 ^ i : Nat) : Int) * (((x / 10000 ^ i : Nat) : Int) - ((y / 10000 ^ i : Nat) : Int) - w) = (x : Int) - y ∧ ok10 s.2.2 ∧ s.2.2.length = i)
    (fun s => ((dg10 x).length - s.2.1).toNat) (fun r => ok10 r ∧ v10 r = (x : Int) - y ∧ r.length = (dg10 x).length) ⟨0, 0, rfl, rfl, by decide, Nat.zero_le _, by simp [v10], ok10_nil, rfl⟩ (by
    rintro ⟨w', i', out⟩ ⟨w, i, hw, hi, hw1, hi1, hV, hok, hl⟩
    simp only at hw hi hV hok hl ⊢
    subst hw; subst hi
    by_cases hlt : i < (dg10 x).length
    · left
      obtain ⟨w2, d, e, h1, h2, h3, h4⟩ := minus_step (dg10 x) (dg10 y) out w i _ _ _ _ hw1 (dg10_lt i x) (dg10_lt i y) (fun h => dg10_ix h) (fun h => dg10_ix h) (Nat.le_trans lx (by decide)) rfl hV hok hl hlt
      refine ⟨_, e, ⟨w2, i + 1, rfl, rfl, h1, hlt, ?_, h3, h4⟩, ?_⟩
      · simp only
        rw [div_pow_succ, div_pow_succ, Nat.pow_succ, Int.natCast_mul]
        exact h2
      · simp only; omega
    · right
      have hX : x / 10000 ^ i = 0 := Classical.byContradiction fun h => hlt ((dg10_lt i x).2 h)
      have hY : y / 10000 ^ i = 0 := Nat.le_zero.1 (hX ▸ Nat.div_le_div_right hyx)
      unfold m_r_minus_l1
      rw [if_neg (by simp; omega)]
      refine ⟨_, rfl, hok, ?_, by omega⟩
      rw [hX, hY] at hV
      have hb := v10_lt hok
      rw [hl] at hb
      have : w = 0 := by
        apply Classical.byContradiction
        intro h
        have : w = 1 := by omega
        subst this
        generalize ((10000 ^ i : Nat) : Int) = P at *
        omega
      subst this
      generalize ((10000 ^ i : Nat) : Int) = P at *
      omega)
  obtain ⟨h1, h2, h3⟩ := hq
  rw [hr]
  simp only [Option.bind_some]
  rw [trim_is r h1 (by rw [h3]; exact Nat.le_trans lx (by decide)), h2, Option.bind_some]
  congr 2; omega
theorem times_step (dx dy out : List Int) (i j c y T : Nat) (D : Nat) (hD : D < 10000) (hc : c < 10000) (lx : dx.length ≤ 4398046511105) (ly : dy.length ≤ 4398046511105) (hi : i < dx.length) (ex : ix dx (i : Int) = some (D : Int))
    (hdy : dy = dg10 y) (hok : ok10 out) (hol : out.length = dx.length + dy.length) (hT : T < 10000 ^ (i + 1 + dy.length))
    (hV : v10 out + ((10000 ^ (i + j) * (c + D * (y / 10000 ^ j)) : Nat) : Int) = (T : Int)) :
    (∃ c' out', m_r_times_l2 dx dy (i : Int) (c : Int) (j : Int) out = some (.next (((c' : Nat) : Int), ((j + 1 : Nat) : Int), out')) ∧ c' < 10000 ∧ j + 1 ≤ dy.length + 1 ∧ ok10 out' ∧ out'.length = out.length ∧ v10 out' + ((10000 ^ (i + (j + 1)) * (c' + D * (y / 10000 ^ (j + 1))) : Nat) : Int) = (T : Int)) ∨
    (m_r_times_l2 dx dy (i : Int) (c : Int) (j : Int) out = some (.done out) ∧ v10 out = (T : Int)) := by
  have gy := dg10_lt j y
  rw [← hdy] at gy
  unfold m_r_times_l2
  by_cases hz : y / 10000 ^ j = 0 ∧ c = 0
  · right
    obtain ⟨h1, rfl⟩ := hz
    have h3 : ¬ j < dy.length := fun h => gy.1 h h1
    rw [if_neg (by simp; omega), if_neg (by decide), Option.bind_some]
    refine ⟨rfl, ?_⟩
    rw [h1] at hV; simpa using hV
  · left
    have hgo : (if (decide ((j : Int) < (dy.length : Int))) = true then some (Ex.brk ()) else (if (decide ((c : Int) > 0)) = true then some (Ex.brk ()) else some (Ex.ret ())) : Option (Ex Unit Unit)) = some (Ex.brk ()) := by
      by_cases h1 : j < dy.length
      · rw [if_pos (decide_eq_true (by omega))]
      · rw [if_neg (by simp; omega), if_pos (decide_eq_true ?_)]
        have h3 : y / 10000 ^ j = 0 := Classical.byContradiction fun h => h1 (gy.2 h)
        have : c ≠ 0 := fun h => hz ⟨h3, h⟩
        omega
    rw [hgo, Option.bind_some]
    dsimp only
    have hn := v10_nonneg hok
    have hpos : 0 < c + D * (y / 10000 ^ j) ∨ (j < dy.length) := by
      by_cases h1 : j < dy.length
      · right; exact h1
      · left
        have h3 : y / 10000 ^ j = 0 := Classical.byContradiction fun h => h1 (gy.2 h)
        have : c ≠ 0 := fun h => hz ⟨h3, h⟩
        omega
    have hj : j < dy.length + 1 ∧ i + j < dx.length + dy.length := by
      rcases hpos with h | h
      · have h1 : 10000 ^ (i + j) ≤ T := by
          have := Nat.mul_le_mul_left (10000 ^ (i + j)) h
          rw [Nat.mul_succ, Nat.mul_zero, Nat.zero_add] at this
          omega
        have h2 : i + j < i + 1 + dy.length := (Nat.pow_lt_pow_iff_right (by decide)).1 (Nat.lt_of_le_of_lt h1 hT)
        omega
      · omega
    have ew : IntKind.i64.wrap ((i : Int) + (j : Int)) = ((i + j : Nat) : Int) := by rw [i64_in (by omega)]; omega
    have hlt : i + j < out.length := by omega
    rw [ew, ix_get hlt, Option.bind_some]
    have ho := hok _ (List.getElem_mem hlt)
    obtain ⟨o, hoo⟩ : ∃ o : Nat, out[i + j] = (o : Int) := ⟨out[i + j].toNat, by omega⟩
    have hset : ∀ d, v10 (out.set (i + j) d) = v10 out + ((10000 ^ (i + j) : Nat) : Int) * (d - (o : Int)) := fun d => by rw [v10_set hlt, hoo]
    rw [hoo] at ho ⊢
    have hprod : D * (y / 10000 ^ j % 10000) ≤ 9999 * 9999 := Nat.mul_le_mul (by omega) (by omega)
    have e1 : (if (decide ((j : Int) < (dy.length : Int))) = true then (ix dx (i : Int)).bind fun v31 => (ix dy (j : Int)).bind fun v33 => some ((IntKind.i64.wrap ((IntKind.i64.wrap ((o : Int) + (c : Int))) + (IntKind.i64.wrap (v31 * v33))))) else some ((IntKind.i64.wrap ((o : Int) + (c : Int))))) = some ((o + c + D * (y / 10000 ^ j % 10000) : Nat) : Int) := by
      have e0 : IntKind.i64.wrap ((o : Int) + (c : Int)) = ((o + c : Nat) : Int) := by rw [i64_in (by omega)]; omega
      rw [e0]
      by_cases h1 : j < dy.length
      · have hiy : ix dy (j : Int) = some ((y / 10000 ^ j % 10000 : Nat) : Int) := by rw [hdy] at h1 ⊢; exact dg10_ix h1
        rw [if_pos (decide_eq_true (by omega)), ex, hiy, Option.bind_some, Option.bind_some, ← Int.natCast_mul]
        generalize D * (y / 10000 ^ j % 10000) = Q at *
        rw [i64_in (n := (Q : Int)) (by omega), i64_in (by omega)]; congr 1
      · have h3 : y / 10000 ^ j = 0 := Classical.byContradiction fun h => h1 (gy.2 h)
        rw [if_neg (by simp; omega), h3]; simp
    rw [e1, Option.bind_some, Option.bind_some]
    have hdm : D * (y / 10000 ^ j) = D * (y / 10000 ^ j % 10000) + 10000 * (D * (y / 10000 ^ (j + 1))) := by
      rw [div_pow_succ, ← Nat.mul_assoc, Nat.mul_comm 10000 D, Nat.mul_assoc, ← Nat.mul_add, Nat.mod_add_div]
    have hS : o + c + D * (y / 10000 ^ j % 10000) < 100000000 := by omega
    generalize hSe : o + c + D * (y / 10000 ^ j % 10000) = S at *
    have e3 : Int.tmod (S : Int) 10000 = ((S % 10000 : Nat) : Int) := by
      rw [Int.tmod_eq_emod_of_nonneg (by omega)]; omega
    have e4 : IntKind.i64.wrap (Int.tdiv (S : Int) 10000) = ((S / 10000 : Nat) : Int) := by
      rw [Int.tdiv_eq_ediv_of_nonneg (by omega), i64_in (by omega)]; omega
    have e5 : IntKind.i64.wrap ((j : Int) + 1) = ((j + 1 : Nat) : Int) := by rw [i64_in (by omega)]; omega
    rw [e3, e4, e5, Int.toNat_natCast]
    refine ⟨_, _, rfl, by omega, by omega, ok10_set hok (by omega) (by omega), by rw [List.length_set], ?_⟩
    rw [hset, ← hV]
    have hk : c + D * (y / 10000 ^ j) + o = S % 10000 + 10000 * (S / 10000 + D * (y / 10000 ^ (j + 1))) := by
      rw [hdm]
      generalize D * (y / 10000 ^ (j + 1)) = R at *
      omega
    rw [show i + (j + 1) = i + j + 1 from rfl, Nat.pow_succ, Nat.mul_assoc]
    generalize 10000 ^ (i + j) = P at *
    generalize 10000 * (S / 10000 + D * (y / 10000 ^ (j + 1))) = U at *
    generalize S % 10000 = s at *
    generalize c + D * (y / 10000 ^ j) = C at *
    have h2 : P * C + P * o = P * s + P * U := by rw [← Nat.mul_add, hk, Nat.mul_add]
    rw [Int.mul_sub, ← Int.natCast_mul, ← Int.natCast_mul]
    omega
theorem times_is (x y : Nat) (hx : sm x) (hy : sm y) : m_r_times (dg10 x) (dg10 y) = some (dg10 (x * y)) := by
  have lx : (dg10 x).length ≤ 4398046511104 := dg10_len hx
  have ly : (dg10 y).length ≤ 4398046511104 := dg10_len hy
  have ew : IntKind.i64.wrap (((dg10 x).length : Int) + ((dg10 y).length : Int)) = (((dg10 x).length + (dg10 y).length : Nat) : Int) := by rw [i64_in (by omega)]; omega
  unfold m_r_times
  rw [ew, Int.toNat_natCast]
  refine must_of ⟨by omega, by omega, by omega⟩ ?_
  obtain ⟨r, hr, hq⟩ := Loop_run (body := fun (s : Int × (List Int)) => m_r_times_l1 (dg10 x) (dg10 y) s.1 s.2) (0, List.replicate ((dg10 x).length + (dg10 y).length) 0)
    (fun s => ∃ i : Nat, s.1 = (i : Int) ∧ i ≤ (dg10 x).length ∧ ok10 s.2 ∧ s.2.length = (dg10 x).length + (dg10 y).length ∧ v10 s.2 = ((x % 10000 ^ i * y : Nat) : Int))
    (fun s => ((dg10 x).length - s.1).toNat) (fun r => ok10 r ∧ v10 r = ((x * y : Nat) : Int) ∧ r.length = (dg10 x).length + (dg10 y).length) ⟨0, rfl, Nat.zero_le _, ok10_rep _, List.length_replicate, by simp only []; rw [v10_rep, Nat.pow_zero, Nat.mod_one, Nat.zero_mul]; rfl⟩ (by
    rintro ⟨i', out⟩ ⟨i, hi, hi1, hok, hl, hV⟩
    simp only at hi hok hl hV ⊢
    subst hi
    unfold m_r_times_l1
    by_cases hlt : i < (dg10 x).length
    · left
      rw [if_pos (decide_eq_true (by omega))]
      have hT : x % 10000 ^ (i + 1) * y < 10000 ^ (i + 1 + (dg10 y).length) := by
        rw [Nat.pow_add 10000 (i + 1)]
        exact Nat.mul_lt_mul'' (Nat.mod_lt _ (pow_pos' _)) (dg10_bd y)
      have hsplit : x % 10000 ^ (i + 1) = x % 10000 ^ i + 10000 ^ i * (x / 10000 ^ i % 10000) := by
        rw [Nat.pow_succ, Nat.mod_mul]
      obtain ⟨r, hr, hq⟩ := Loop_run (body := fun (s : Int × Int × (List Int)) => m_r_times_l2 (dg10 x) (dg10 y) (i : Int) s.1 s.2.1 s.2.2) (0, 0, out)
        (fun s => ∃ c j : Nat, s.1 = (c : Int) ∧ s.2.1 = (j : Int) ∧ c < 10000 ∧ j ≤ (dg10 y).length + 1 ∧ ok10 s.2.2 ∧ s.2.2.length = (dg10 x).length + (dg10 y).length ∧ v10 s.2.2 + ((10000 ^ (i + j) * (c + x / 10000 ^ i % 10000 * (y / 10000 ^ j)) : Nat) : Int) = ((x % 10000 ^ (i + 1) * y : Nat) : Int))
        (fun s => ((dg10 y).length + 1 - s.2.1).toNat) (fun r => ok10 r ∧ r.length = (dg10 x).length + (dg10 y).length ∧ v10 r = ((x % 10000 ^ (i + 1) * y : Nat) : Int))
        ⟨0, 0, rfl, rfl, by decide, Nat.zero_le _, hok, hl, by
          simp only []
          rw [hV, hsplit, Nat.add_zero, Nat.zero_add, Nat.pow_zero, Nat.div_one, Nat.add_mul, Nat.mul_assoc, Int.natCast_add]⟩ (by
        rintro ⟨c', j', out'⟩ ⟨c, j, hc, hj, hc1, hj1, hok', hl', hV'⟩
        simp only at hc hj hok' hl' hV' ⊢
        subst hc; subst hj
        rcases times_step (dg10 x) (dg10 y) out' i j c y _ _ (Nat.mod_lt _ (by decide)) hc1 (Nat.le_trans lx (by decide)) (Nat.le_trans ly (by decide)) hlt (dg10_ix hlt) rfl hok' hl' hT hV' with ⟨c2, out2, e, h1, h2, h3, h4, h5⟩ | ⟨e, h⟩
        · left
          refine ⟨_, e, ⟨c2, j + 1, rfl, rfl, h1, h2, h3, by simp only; omega, h5⟩, by simp only; omega⟩
        · right
          exact ⟨_, e, hok', hl', h⟩)
      obtain ⟨q1, q2, q3⟩ := hq
      rw [hr]
      simp only [Option.bind_some]
      have e5 : IntKind.i64.wrap ((i : Int) + 1) = ((i + 1 : Nat) : Int) := by rw [i64_in (by omega)]; omega
      rw [e5]
      exact ⟨_, rfl, ⟨i + 1, rfl, hlt, q1, q2, q3⟩, by simp only; omega⟩
    · right
      rw [if_neg (by simp; omega)]
      have : i = (dg10 x).length := by omega
      subst this
      refine ⟨_, rfl, hok, ?_, hl⟩
      rw [hV, Nat.mod_eq_of_lt (dg10_bd x)])
  obtain ⟨h1, h2, h3⟩ := hq
  rw [hr]
  simp only [Option.bind_some]
  rw [trim_is r h1 (by rw [h3]; omega), h2, Option.bind_some, Int.toNat_natCast]
end Go.Am
namespace Go.Am
open Go.RowKit
theorem top_is (x f : Nat) (hx : (dg10 x).length ≤ 4398046511105) (hf : f ≤ 4398046511105) (hb : x / 10000 ^ f < 10000000000000000) : m_r_top (dg10 x) (f : Int) = some ((x / 10000 ^ f : Nat) : Int) := by
  unfold m_r_top
  have e1 : IntKind.i64.wrap (((dg10 x).length : Int) - 1) = ((dg10 x).length : Int) - 1 := i64_in (by omega)
  rw [e1]
  by_cases hlf : (dg10 x).length ≤ f
  · have hb : m_r_top_l1 (dg10 x) (f : Int) 0 (((dg10 x).length : Int) - 1) = some (.done 0) := by
      unfold m_r_top_l1; rw [if_neg (by simp; omega)]
    have hz : x / 10000 ^ f = 0 := Classical.byContradiction fun h => absurd ((dg10_lt f x).2 h) (by omega)
    rw [Loop_done (body := fun (s : Int × Int) => m_r_top_l1 (dg10 x) (f : Int) s.1 s.2) hb, hz]; rfl
  obtain ⟨r, hr, rfl⟩ := Loop_run (body := fun (s : Int × Int) => m_r_top_l1 (dg10 x) (f : Int) s.1 s.2) (0, (((dg10 x).length : Int) - 1))
    (fun s => ∃ k : Nat, s.2 = (k : Int) - 1 ∧ f ≤ k ∧ k ≤ (dg10 x).length ∧ s.1 = ((x / 10000 ^ k : Nat) : Int)) (fun s => (s.2 + 1).toNat) (fun r => r = ((x / 10000 ^ f : Nat) : Int)) ⟨_, rfl, by omega, Nat.le_refl _, by simp only []; rw [dg10_top]; rfl⟩ (by
    rintro ⟨v, s⟩ ⟨k, hs, hk1, hk2, hv⟩
    simp only at hs hv ⊢
    subst hs; subst hv
    unfold m_r_top_l1
    by_cases hkf : k = f
    · right
      subst hkf
      rw [if_neg (by simp; omega)]
      exact ⟨_, rfl, rfl⟩
    · left
      obtain ⟨k, rfl⟩ : ∃ m, k = m + 1 := ⟨k - 1, by omega⟩
      have ek : ((k + 1 : Nat) : Int) - 1 = (k : Int) := by omega
      have hmono : x / 10000 ^ k ≤ x / 10000 ^ f := Nat.div_le_div_left (Nat.pow_le_pow_right (by decide) (by omega)) (pow_pos' f)
      rw [ek, if_pos (decide_eq_true (by omega)), dg10_ix (by omega), Option.bind_some, div_pow_succ]
      generalize hX : x / 10000 ^ k = X at *
      refine ⟨_, rfl, ⟨k, ?_, by omega, by omega, ?_⟩, ?_⟩
      · simp only; rw [i64_in (by omega)]
      · simp only; rw [hX, i64_in (n := (((X / 10000 : Nat)) : Int) * 10000) (by omega), i64_in (by omega)]; omega
      · simp only; rw [i64_in (by omega)]; omega)
  rw [hr]; rfl
theorem over_l2_is (y : Nat) (hy : y ≠ 0) (hsy : sm y) (R : Nat) (hR : sm R) (hq : R / y < 10000) (g : Nat) (hg : y * g ≤ R) :
    Loop (fun (s : (List Int) × Int) => m_r_over_l2 (dg10 y) s.1 s.2) (dg10 (R - y * g), (g : Int)) = some (dg10 (R % y), ((R / y : Nat) : Int)) := by
  obtain ⟨r, hr, rfl⟩ := Loop_run (body := fun (s : (List Int) × Int) => m_r_over_l2 (dg10 y) s.1 s.2) (dg10 (R - y * g), (g : Int))
    (fun s => ∃ k : Nat, y * k ≤ R ∧ s = (dg10 (R - y * k), (k : Int))) (fun s => (10000 - s.2).toNat) (fun r => r = (dg10 (R % y), ((R / y : Nat) : Int))) ⟨g, hg, rfl⟩ (by
    rintro s ⟨k, hk, rfl⟩
    simp only
    unfold m_r_over_l2
    have hs : sm (R - y * k) := sm_le (Nat.sub_le _ _) hR
    have hkq : k ≤ R / y := (Nat.le_div_iff_mul_le (Nat.pos_of_ne_zero hy)).2 (by rw [Nat.mul_comm]; exact hk)
    rw [abs_is _ _ hs hsy, Option.bind_some]
    by_cases hc : y ≤ R - y * k
    · left
      have h2 : y * (k + 1) ≤ R := by rw [Nat.mul_succ]; omega
      have hkq2 : k + 1 ≤ R / y := (Nat.le_div_iff_mul_le (Nat.pos_of_ne_zero hy)).2 (by rw [Nat.mul_comm]; exact h2)
      rw [if_pos (decide_eq_true (cmpn_ge0 hc)), minus_is _ _ hs hc, Option.bind_some]
      have e : IntKind.i64.wrap ((k : Int) + 1) = ((k + 1 : Nat) : Int) := by rw [i64_in (by omega)]; omega
      rw [e]
      refine ⟨_, rfl, ⟨k + 1, h2, ?_⟩, by simp only; omega⟩
      rw [Nat.mul_succ, Nat.sub_sub]
    · right
      have hcm : cmpn (R - y * k) y = -1 := by unfold cmpn; rw [if_pos (by omega)]
      rw [hcm, if_neg (by decide)]
      refine ⟨_, rfl, ?_⟩
      have h3 : R / y = k := by
        apply Nat.le_antisymm _ hkq
        apply Nat.le_of_lt_succ
        rw [Nat.div_lt_iff_lt_mul (Nat.pos_of_ne_zero hy), Nat.succ_mul, Nat.mul_comm k y]; omega
      have h4 := Nat.div_add_mod R y
      rw [h3] at h4
      rw [h3, show R - y * k = R % y from by omega])
  exact hr
theorem guess_is (y R : Nat) (hy : y ≠ 0) (ly : (dg10 y).length ≤ 4398046511104) (lR : (dg10 R).length ≤ 4398046511104) (hR : R < 10000 * y) :
    ∃ g : Nat, (if (decide (((dg10 y).length : Int) ≤ 3)) = true then (m_r_top (dg10 R) 0).bind fun v22 => (m_r_top (dg10 y) 0).bind fun v24 => must ((v24 : Int) ≠ 0) (some ((IntKind.i64.wrap (Int.tdiv v22 v24)))) else (if (decide (((dg10 R).length : Int) ≥ ((dg10 y).length : Int))) = true then (m_r_top (dg10 R) (IntKind.i64.wrap (((dg10 y).length : Int) - 3))).bind fun v28 => (m_r_top (dg10 y) (IntKind.i64.wrap (((dg10 y).length : Int) - 3))).bind fun v30 => must (((IntKind.i64.wrap (v30 + 1)) : Int) ≠ 0) (some ((IntKind.i64.wrap (Int.tdiv v28 (IntKind.i64.wrap (v30 + 1)))))) else some (0))) = some (g : Int) ∧ g ≤ R / y := by
  have hby := dg10_bd y
  by_cases h3 : (dg10 y).length ≤ 3
  · rw [if_pos (decide_eq_true (by omega))]
    have hy3 : y < 1000000000000 := Nat.lt_of_lt_of_le hby (show (10000 : Nat) ^ (dg10 y).length ≤ 10000 ^ 3 from Nat.pow_le_pow_right (by decide) h3)
    have e1 := top_is R 0 (by omega) (by omega) (by rw [Nat.pow_zero, Nat.div_one]; omega)
    have e2 := top_is y 0 (by omega) (by omega) (by rw [Nat.pow_zero, Nat.div_one]; omega)
    rw [Nat.pow_zero, Nat.div_one] at e1 e2
    have e1' : m_r_top (dg10 R) 0 = some (R : Int) := e1
    have e2' : m_r_top (dg10 y) 0 = some (y : Int) := e2
    rw [e1', e2', Option.bind_some, Option.bind_some]
    refine ⟨R / y, must_of (by omega) ?_, Nat.le_refl _⟩
    have hq : R / y ≤ R := Nat.div_le_self _ _
    rw [Int.tdiv_eq_ediv_of_nonneg (by omega), ← Int.natCast_ediv]
    generalize R / y = q at *
    rw [i64_in (by omega)]
  · rw [if_neg (by simp; omega)]
    by_cases hl : (dg10 y).length ≤ (dg10 R).length
    · rw [if_pos (decide_eq_true (by omega))]
      obtain ⟨f, hf⟩ : ∃ f, (dg10 y).length = f + 3 := ⟨(dg10 y).length - 3, by omega⟩
      have ef : IntKind.i64.wrap (((dg10 y).length : Int) - 3) = (f : Int) := by rw [i64_in (by omega)]; omega
      rw [hf, Nat.pow_add] at hby
      have hp := pow_pos' f
      have h4 : y / 10000 ^ f < 10000 ^ 3 := Nat.div_lt_of_lt_mul hby
      have h5 : R / 10000 ^ f < 10000 ^ 4 := by
        apply Nat.div_lt_of_lt_mul
        rw [show 10000 ^ f * 10000 ^ 4 = 10000 * (10000 ^ f * 10000 ^ 3) from by rw [← Nat.pow_add, ← Nat.pow_add, ← Nat.pow_succ']]
        omega
      have p3 : (10000 : Nat) ^ 3 = 1000000000000 := by decide
      have p4 : (10000 : Nat) ^ 4 = 10000000000000000 := by decide
      rw [p3] at h4; rw [p4] at h5
      have hf2 : f ≤ 4398046511105 := by omega
      rw [ef, top_is R f (by omega) hf2 h5, top_is y f (by omega) hf2 (by omega), Option.bind_some, Option.bind_some]
      have hg : R / 10000 ^ f / (y / 10000 ^ f + 1) ≤ R / y := by
        rw [Nat.div_div_eq_div_mul]
        apply Nat.div_le_div_left _ (Nat.pos_of_ne_zero hy)
        have := Nat.div_add_mod y (10000 ^ f)
        have := Nat.mod_lt y hp
        rw [Nat.mul_succ]; omega
      generalize R / 10000 ^ f = A at *
      generalize y / 10000 ^ f = C at *
      have e6 : IntKind.i64.wrap ((C : Int) + 1) = ((C + 1 : Nat) : Int) := by rw [i64_in (by omega)]; omega
      rw [e6]
      refine ⟨A / (C + 1), must_of (by omega) ?_, hg⟩
      have hq : A / (C + 1) ≤ A := Nat.div_le_self _ _
      rw [Int.tdiv_eq_ediv_of_nonneg (by omega), ← Int.natCast_ediv]
      generalize A / (C + 1) = q at *
      rw [i64_in (by omega)]
    · rw [if_neg (by simp; omega)]
      exact ⟨0, rfl, Nat.zero_le _⟩
theorem over_step (x y i : Nat) (out : List Int) (hy : y ≠ 0) (hx : sm x) (hsy : sm y) (hi : i < (dg10 x).length) (hol : out.length = (dg10 x).length) :
    m_r_over_l1 (dg10 x) (dg10 y) (dg10 (x / 10000 ^ (i + 1) % y)) (i : Int) out = some (.next (dg10 (x / 10000 ^ i % y), (i : Int) - 1, out.set i (((x / 10000 ^ i % 10000 + 10000 * (x / 10000 ^ (i + 1) % y)) / y : Nat) : Int))) := by
  have lx := dg10_len hx
  have ly := dg10_len hsy
  unfold m_r_over_l1
  rw [if_pos (decide_eq_true (by omega)), dg10_ix hi, Option.bind_some]
  have hXx : x / 10000 ^ i ≤ x := Nat.div_le_self _ _
  rw [div_pow_succ]
  generalize x / 10000 ^ i = X at *
  have hρ : X / 10000 % y ≤ X / 10000 := Nat.mod_le _ _
  have hρy : X / 10000 % y < y := Nat.mod_lt _ (Nat.pos_of_ne_zero hy)
  have hmod : X % y = (X % 10000 + 10000 * (X / 10000 % y)) % y := by
    conv => lhs; rw [← Nat.mod_add_div X 10000]
    rw [Nat.add_mod, Nat.mul_mod, Nat.add_mod (X % 10000), Nat.mul_mod 10000 (X / 10000 % y), Nat.mod_mod]
  rw [hmod]
  generalize hr : X / 10000 % y = ρ at *
  generalize hd : X % 10000 = d at *
  have hd4 : d < 10000 := by omega
  have hRx : d + 10000 * ρ ≤ x := by omega
  have hRs : sm (d + 10000 * ρ) := sm_le hRx hx
  have lρ : (dg10 ρ).length ≤ 4398046511104 := dg10_len (sm_le (by omega) hRs)
  have htr : m_r_trim ([(d : Int)] ++ dg10 ρ) = some (dg10 (d + 10000 * ρ)) := by
    rw [trim_is _ (by rw [List.singleton_append, ok10_cons]; exact ⟨⟨by omega, by omega⟩, dg10_ok _⟩) (by simp only [List.length_append, List.length_cons, List.length_nil]; omega)]
    congr 2
    rw [List.singleton_append, v10, v10_dg10]; omega
  rw [must_eq ⟨by simp only [List.length_cons, List.length_nil]; omega, by simp only [List.length_cons, List.length_nil]; omega⟩, htr, Option.bind_some]
  have hR : d + 10000 * ρ < 10000 * y := by omega
  generalize d + 10000 * ρ = R at *
  obtain ⟨g, eg, hg⟩ := guess_is y R hy ly (dg10_len hRs) hR
  rw [eg, Option.bind_some]
  have hq : R / y < 10000 := by rw [Nat.div_lt_iff_lt_mul (Nat.pos_of_ne_zero hy)]; exact hR
  have hgi : i64r (g : Int) := by unfold i64r; omega
  rw [ZInt_is _ hgi, Option.bind_some]
  dsimp only
  have hyg : y * g ≤ R := by rw [Nat.mul_comm]; exact (Nat.le_div_iff_mul_le (Nat.pos_of_ne_zero hy)).1 hg
  rw [Int.natAbs_natCast, times_is y g hsy (sm_small (by omega)), Option.bind_some, minus_is R (y * g) hRs hyg, Option.bind_some, over_l2_is y hy hsy R hRs hq g hyg, Option.bind_some]
  dsimp only
  rw [ix_get (by omega), Option.bind_some, i64_in (by omega), Int.toNat_natCast]
theorem over_is (x y : Nat) (hy : y ≠ 0) (hx : sm x) (hsy : sm y) : m_r_over (dg10 x) (dg10 y) = some (dg10 (x / y), dg10 (x % y)) := by
  have lx := dg10_len hx
  unfold m_r_over
  refine must_of ⟨by omega, by omega, by omega⟩ ?_
  have e1 : IntKind.i64.wrap (((dg10 x).length : Int) - 1) = ((dg10 x).length : Int) - 1 := i64_in (by omega)
  rw [e1, Int.toNat_natCast]
  obtain ⟨r, hr, hq⟩ := Loop_run (body := fun (s : (List Int) × Int × (List Int)) => m_r_over_l1 (dg10 x) (dg10 y) s.1 s.2.1 s.2.2) ([], (((dg10 x).length : Int) - 1), List.replicate (dg10 x).length 0)
    (fun s => ∃ k : Nat, s.2.1 = (k : Int) - 1 ∧ k ≤ (dg10 x).length ∧ s.1 = dg10 (x / 10000 ^ k % y) ∧ s.2.2.length = (dg10 x).length ∧ ok10 s.2.2 ∧ (∀ j, j < k → s.2.2[j]? = some 0) ∧ v10 s.2.2 = ((10000 ^ k * (x / 10000 ^ k / y) : Nat) : Int))
    (fun s => (s.2.1 + 1).toNat) (fun r => r.1 = dg10 (x % y) ∧ r.2.length = (dg10 x).length ∧ ok10 r.2 ∧ v10 r.2 = ((x / y : Nat) : Int)) ⟨_, rfl, Nat.le_refl _, by simp only []; rw [dg10_top, Nat.zero_mod, dg10_zero], List.length_replicate, ok10_rep _, fun j hj => by simp only []; rw [List.getElem?_replicate, if_pos hj], by simp only []; rw [v10_rep, dg10_top, Nat.zero_div, Nat.mul_zero]; rfl⟩ (by
    rintro ⟨r, s, out⟩ ⟨k, hs, hk, hr, hl, hok, hz, hV⟩
    simp only at hs hr hl hok hz hV ⊢
    subst hs; subst hr
    cases k with
    | zero =>
      right
      unfold m_r_over_l1
      rw [if_neg (by decide)]
      refine ⟨_, rfl, ?_, hl, hok, ?_⟩
      · simp only []; rw [Nat.pow_zero, Nat.div_one]
      · simp only []; rw [hV, Nat.pow_zero, Nat.div_one, Nat.one_mul]
    | succ i =>
      left
      have ek : ((i + 1 : Nat) : Int) - 1 = (i : Int) := by omega
      rw [ek, over_step x y i out hy hx hsy (by omega) hl]
      have hoi := hz i (by omega)
      rw [List.getElem?_eq_getElem (by omega)] at hoi
      injection hoi with hoi
      have hQ : (x / 10000 ^ i % 10000 + 10000 * (x / 10000 ^ (i + 1) % y)) / y < 10000 := by
        have := Nat.mod_lt (x / 10000 ^ (i + 1)) (Nat.pos_of_ne_zero hy)
        rw [Nat.div_lt_iff_lt_mul (Nat.pos_of_ne_zero hy)]; omega
      refine ⟨_, rfl, ⟨i, rfl, by omega, rfl, by simp only []; rw [List.length_set]; exact hl, ok10_set hok (Int.natCast_nonneg _) (Int.ofNat_lt.2 hQ), ?_, ?_⟩, by simp only []; omega⟩
      · intro j hj
        simp only []
        rw [List.getElem?_set_ne (by omega)]; exact hz j (by omega)
      · simp only []
        rw [v10_set (by omega), hoi, hV, Int.sub_zero, ← Int.natCast_mul, ← Int.natCast_add]
        congr 1
        rw [Nat.pow_succ, Nat.mul_assoc, ← Nat.mul_add]
        congr 1
        rw [← Nat.pow_succ, div_pow_succ]
        generalize x / 10000 ^ i = X
        have h1 : X = X % 10000 + 10000 * (X / 10000 % y) + y * (10000 * (X / 10000 / y)) := by
          have h2 := Nat.mod_add_div (X / 10000) y
          have h3 := Nat.mod_add_div X 10000
          have h4 : y * (10000 * (X / 10000 / y)) = 10000 * (y * (X / 10000 / y)) := by rw [← Nat.mul_assoc, Nat.mul_comm y 10000, Nat.mul_assoc]
          rw [h4]; omega
        conv => rhs; rw [h1]
        rw [Nat.add_mul_div_left _ _ (Nat.pos_of_ne_zero hy)]; omega)
  obtain ⟨h1, h2, h3, h4⟩ := hq
  rw [hr]
  simp only [Option.bind_some]
  rw [trim_is r.2 h3 (by omega), h4, Option.bind_some, Int.toNat_natCast, h1]
end Go.Am
namespace Go.Am
open Go.RowKit
theorem zlen_pos (n : Nat) : decide (((dg10 n).length : Int) > 0) = decide (n ≠ 0) := by
  by_cases h : n = 0
  · subst h; rw [dg10_zero]; rfl
  · have : (dg10 n).length ≠ 0 := fun k => h (dg10_len0.1 k)
    rw [decide_eq_true h, decide_eq_true (by omega)]
theorem zlen_zero (n : Nat) : (((dg10 n).length : Int) == 0) = decide (n = 0) := by
  by_cases h : n = 0
  · subst h; rw [dg10_zero]; rfl
  · have : (dg10 n).length ≠ 0 := fun k => h (dg10_len0.1 k)
    rw [decide_eq_false h, beq_eq_false_iff_ne]; omega
theorem signed_is (neg : Bool) (n : Nat) : m_r_signed neg (dg10 n) = some (decide (sg neg n < 0), dg10 (sg neg n).natAbs) := by
  unfold m_r_signed
  rw [sg_abs, zlen_pos]
  cases neg
  · rw [if_neg (by decide)]; unfold sg; rw [if_neg (by decide), decide_eq_false (by omega)]
  · rw [if_pos rfl]; unfold sg; rw [if_pos rfl]
    by_cases h : n = 0
    · subst h; rfl
    · rw [decide_eq_true h, decide_eq_true (by omega)]
theorem ZNeg_is (z : Int) : m_r_ZNeg (decide (z < 0)) (dg10 z.natAbs) = some (decide (-z < 0), dg10 (-z).natAbs) := by
  unfold m_r_ZNeg; rw [signed_is, sg_neg]; rfl
theorem ZAdd_is (z w : Int) (hz : sm z.natAbs) (hw : sm w.natAbs) : m_r_ZAdd (decide (z < 0)) (dg10 z.natAbs) (decide (w < 0)) (dg10 w.natAbs) = some (decide (z + w < 0), dg10 (z + w).natAbs) := by
  unfold m_r_ZAdd
  have e1 : ∀ (neg : Bool) (n : Nat), sg neg n = z + w → m_r_signed neg (dg10 n) = some (decide (z + w < 0), dg10 (z + w).natAbs) := fun neg n h => by rw [signed_is, h]
  by_cases hs : (decide (z < 0) == decide (w < 0)) = true
  · rw [if_pos hs, plus_is _ _ hz hw, Option.bind_some, e1]
    · rfl
    · unfold sg
      rw [beq_iff_eq] at hs
      by_cases h : z < 0
      · rw [decide_eq_true h] at *
        have hs := of_decide_eq_true hs.symm
        rw [if_pos rfl]; omega
      · rw [decide_eq_false h] at *
        have hs := of_decide_eq_false hs.symm
        rw [if_neg (by decide)]; omega
  · rw [if_neg hs, abs_is _ _ hz hw, Option.bind_some]
    have hs2 : (z < 0 ∧ 0 ≤ w) ∨ (0 ≤ z ∧ w < 0) := by
      rw [beq_iff_eq] at hs
      by_cases h : z < 0 <;> by_cases k : w < 0
      · rw [decide_eq_true h, decide_eq_true k] at hs; exact absurd rfl hs
      · left; omega
      · right; omega
      · rw [decide_eq_false h, decide_eq_false k] at hs; exact absurd rfl hs
    by_cases hc : w.natAbs ≤ z.natAbs
    · rw [if_pos (decide_eq_true (cmpn_ge0 hc)), minus_is _ _ hz hc, Option.bind_some, e1]
      · rfl
      · unfold sg; split <;> rename_i h <;> simp only [decide_eq_true_eq] at h <;> omega
    · have : cmpn z.natAbs w.natAbs = -1 := by unfold cmpn; rw [if_pos (by omega)]
      rw [this, if_neg (by decide), minus_is _ _ hw (by omega), Option.bind_some, e1]
      · rfl
      · unfold sg; split <;> rename_i h <;> simp only [decide_eq_true_eq] at h <;> omega
theorem ZMul_is (z w : Int) (hz : sm z.natAbs) (hw : sm w.natAbs) : m_r_ZMul (decide (z < 0)) (dg10 z.natAbs) (decide (w < 0)) (dg10 w.natAbs) = some (decide (z * w < 0), dg10 (z * w).natAbs) := by
  unfold m_r_ZMul
  rw [times_is _ _ hz hw, Option.bind_some, signed_is, sg_mul]; rfl
theorem small_is (nb : Bool) (n : Nat) (hn : sm n) : m_r_small nb (dg10 n) = some (if n < 10000000000000000 then ((n : Int), true) else (0, false)) := by
  have ln := dg10_len hn
  have p4 : (10000 : Nat) ^ 4 = 10000000000000000 := by decide
  unfold m_r_small
  by_cases h : (dg10 n).length ≤ 4
  · have hlt : n < 10000000000000000 := Nat.lt_of_lt_of_le (dg10_bd n) (p4 ▸ Nat.pow_le_pow_right (by decide) h)
    rw [if_neg (by simp; omega), if_pos hlt]
    have ht := top_is n 0 (by omega) (by decide) (by rw [Nat.pow_zero, Nat.div_one]; exact hlt)
    rw [Nat.pow_zero, Nat.div_one] at ht
    have ht : m_r_top (dg10 n) 0 = some (n : Int) := ht
    have : m_r_small_l1 (dg10 n) = m_r_top_l1 (dg10 n) 0 := rfl
    rw [this]
    unfold m_r_top at ht
    obtain ⟨r, hr, h2⟩ := bind_some ht
    rw [hr]
    injection h2 with h2
    rw [h2]; rfl
  · have hge : ¬ n < 10000000000000000 := by
      intro hc
      apply h
      exact dg10_len_of (p4 ▸ hc)
    rw [if_pos (decide_eq_true (by omega)), if_neg hge]
theorem gcd_l2_eq : m_r_ZGcd_l2 = m_nat_gcd_l2 := rfl
theorem ZGcd_is (na nb : Bool) (x y : Nat) (hx : sm x) (hy : sm y) : m_r_ZGcd na (dg10 x) nb (dg10 y) = some (false, dg10 (Nat.gcd x y)) := by
  obtain ⟨r, hr, hq⟩ := Loop_run (body := fun (s : (List Int) × (List Int)) => m_r_ZGcd_l1 s.1 s.2) (dg10 x, dg10 y) (fun s => ∃ a b : Nat, s = (dg10 a, dg10 b) ∧ sm a ∧ sm b ∧ Nat.gcd a b = Nat.gcd x y) (fun s => (v10 s.2).toNat) (fun r => r = Ex.brk (dg10 (Nat.gcd x y)) ∨ r = Ex.ret (false, dg10 (Nat.gcd x y))) ⟨x, y, rfl, hx, hy, rfl⟩ (by
    rintro s ⟨a, b, rfl, ha, hb, hg⟩
    simp only
    unfold m_r_ZGcd_l1
    rw [zlen_pos]
    by_cases h0 : b = 0
    · right
      subst h0
      rw [Nat.gcd_zero_right] at hg
      rw [if_neg (by decide)]
      exact ⟨_, rfl, .inl (by rw [hg])⟩
    rw [if_pos (decide_eq_true h0), small_is _ _ ha, Option.bind_some]
    rw [small_is _ _ hb]
    simp only [Option.bind_some]
    by_cases h2 : a < 10000000000000000 ∧ b < 10000000000000000
    · right
      rw [if_pos h2.1, if_pos h2.2]
      dsimp only
      rw [if_pos rfl, if_pos rfl, gcd_l2_eq, gcd_small, Option.bind_some]
      have hgle : Nat.gcd a b ≤ b := Nat.gcd_le_right _ (Nat.pos_of_ne_zero h0)
      rw [ZInt_is _ (by unfold i64r; omega), Option.bind_some]
      dsimp only
      rw [Option.bind_some, Int.natAbs_natCast, hg, decide_eq_false (by omega)]
      exact ⟨_, rfl, .inr rfl⟩
    · left
      have hgo : ∀ (u v : Int × Bool) , u = (if a < 10000000000000000 then ((a : Int), true) else (0, false)) → v = (if b < 10000000000000000 then ((b : Int), true) else (0, false)) →
        (if u.2 = true then (if v.2 = true then (Loop (fun (s : Int × Int) => m_r_ZGcd_l2 s.1 s.2) (u.1, v.1)).bind fun v30 => (m_r_ZInt v30).bind fun (v31, v32) => some (Ex.ret (v31, v32)) else some (Ex.brk ())) else some (Ex.brk ()) : Option (Ex Unit (Bool × List Int))) = some (Ex.brk ()) := by
        intro u v hu hv
        by_cases h3 : a < 10000000000000000
        · have h4 : ¬ b < 10000000000000000 := fun h => h2 ⟨h3, h⟩
          rw [if_neg h4] at hv
          rw [if_pos h3] at hu
          subst hu; subst hv
          rw [if_pos rfl, if_neg (by decide)]
        · rw [if_neg h3] at hu
          subst hu
          rw [if_neg (by decide)]
      have := hgo _ _ rfl rfl
      rw [this, Option.bind_some]
      dsimp only
      rw [over_is a b h0 ha hb, Option.bind_some]
      refine ⟨_, rfl, ⟨b, a % b, rfl, hb, sm_le (Nat.le_of_lt (Nat.mod_lt _ (Nat.pos_of_ne_zero h0))) hb, ?_⟩, ?_⟩
      · rw [← hg, Nat.gcd_comm a b, Nat.gcd_rec b a, Nat.gcd_comm]
      · simp only [v10_dg10, Int.toNat_natCast]; exact Nat.mod_lt _ (Nat.pos_of_ne_zero h0))
  unfold m_r_ZGcd
  rw [hr]
  rcases hq with rfl | rfl <;> rfl
theorem nat_lt0 (n : Nat) : decide ((n : Int) < 0) = false := decide_eq_false (by omega)
end Go.Am
namespace Go.Am
open Go.RowKit
def dP : Nat → Nat → List Int
  | 0, _ => []
  | k + 1, x => ((48 + x % 10 : Nat) : Int) :: dP k (x / 10)
theorem dP_snoc : ∀ k x, dP (k + 1) x = dP k x ++ [((48 + x / 10 ^ k % 10 : Nat) : Int)]
  | 0, x => by simp [dP]
  | k + 1, x => by
    rw [dP, dP_snoc k (x / 10), dP, List.cons_append, Nat.div_div_eq_div_mul, Nat.pow_succ, Nat.mul_comm]
theorem dP_len : ∀ k x, (dP k x).length = k
  | 0, _ => rfl
  | k + 1, x => by rw [dP, List.length_cons, dP_len k]
theorem dP_dR : ∀ (m n : Nat), n < 10 ^ m → ∃ k, dP m n = dR n ++ List.replicate k 48
  | 0, n, h => by
    have : n = 0 := by rw [Nat.pow_zero] at h; omega
    subst this
    exact ⟨0, by rw [dR_zero]; rfl⟩
  | m + 1, n, h => by
    rw [Nat.pow_succ] at h
    obtain ⟨k, hk⟩ := dP_dR m (n / 10) (by omega)
    by_cases h0 : n = 0
    · subst h0
      rw [Nat.zero_div, dR_zero, List.nil_append] at hk
      exact ⟨k + 1, by rw [dP, Nat.zero_div, hk, dR_zero]; rfl⟩
    · exact ⟨k, by rw [dP, hk, dR_pos h0]; rfl⟩
theorem dR_last : ∀ (n : Nat), n ≠ 0 → ∃ d l, dR n = l ++ [((48 + d : Nat) : Int)] ∧ 1 ≤ d ∧ d ≤ 9
  | n, h => by
    rw [dR_pos h]
    by_cases h1 : n / 10 = 0
    · exact ⟨n % 10, [], by rw [h1, dR_zero]; rfl, by omega, by omega⟩
    · obtain ⟨d, l, e, k⟩ := dR_last (n / 10) h1
      exact ⟨d, _ :: l, by rw [e]; rfl, k⟩
termination_by n => n
decreasing_by exact Nat.div_lt_self (Nat.pos_of_ne_zero h) (by decide)
theorem digit_text : ∀ d : Nat, d < 10 → (List.drop d (List.take (d + 1) ([48, 49, 50, 51, 52, 53, 54, 55, 56, 57] : List UInt8))) = [UInt8.ofNat (48 + d)] := by decide
theorem four_digit {X j : Nat} (hj : j < 4) : X % 10000 / 10 ^ j % 10 = X / 10 ^ j % 10 := by
  rcases j with _ | _ | _ | _ | j
  · simp only [Nat.pow_zero]; omega
  · rw [show 10 ^ (0 + 1) = 10 from rfl]; omega
  · rw [show 10 ^ (0 + 1 + 1) = 100 from rfl]; omega
  · rw [show 10 ^ (0 + 1 + 1 + 1) = 1000 from rfl]; omega
  · omega
theorem text_l2_step (t : List UInt8) (X j : Nat) (hX : X < 10000) (hj : j < 4) (ht : t.length ≤ 100000000000000) :
    m_r_ZText_l2 t (X : Int) (j : Int) = some (.next (UInt8.ofNat (48 + X % 10) :: t, ((X / 10 : Nat) : Int), ((j + 1 : Nat) : Int))) := by
  unfold m_r_ZText_l2
  have e1 : Int.tmod (X : Int) 10 = ((X % 10 : Nat) : Int) := by rw [Int.tmod_eq_emod_of_nonneg (by omega)]; omega
  have e2 : IntKind.i64.wrap (((X % 10 : Nat) : Int) + 1) = ((X % 10 + 1 : Nat) : Int) := by rw [i64_in (by omega)]; omega
  have e3 : IntKind.i64.wrap (Int.tdiv (X : Int) 10) = ((X / 10 : Nat) : Int) := by
    rw [Int.tdiv_eq_ediv_of_nonneg (by omega), i64_in (by omega)]; omega
  have e4 : IntKind.i64.wrap ((j : Int) + 1) = ((j + 1 : Nat) : Int) := by rw [i64_in (by omega)]; omega
  rw [if_pos (decide_eq_true (by omega)), e1, e2, e3, e4, Int.toNat_natCast, Int.toNat_natCast, digit_text _ (Nat.mod_lt _ (by decide))]
  exact must_of ⟨by omega, by omega, by simp only [List.length_cons, List.length_nil]; omega⟩ (must_of (by simp only [List.length_cons, List.length_nil]; omega) rfl)
theorem text_l2_done (t : List UInt8) (X : Int) : m_r_ZText_l2 t X 4 = some (.done t) := by
  unfold m_r_ZText_l2; rw [if_neg (by decide)]
theorem bytesOf_append (a b : List Int) : bytesOf (a ++ b) = bytesOf a ++ bytesOf b := List.map_append
theorem bytes_snoc (k x : Nat) : bytesOf (dP (k + 1) x).reverse = UInt8.ofNat (48 + x / 10 ^ k % 10) :: bytesOf (dP k x).reverse := by
  rw [dP_snoc, List.reverse_append]
  simp only [List.reverse_cons, List.reverse_nil, List.nil_append, List.singleton_append, bytesOf, List.map_cons, Int.toNat_natCast]
theorem pow_four (i : Nat) : 10 ^ (4 * i) = 10000 ^ i := by rw [Nat.pow_mul]
theorem text_l2_is (n i : Nat) (hi : i ≤ 4398046511104) : Loop (fun (s : (List UInt8) × Int × Int) => m_r_ZText_l2 s.1 s.2.1 s.2.2) (bytesOf (dP (4 * i) n).reverse, ((n / 10000 ^ i % 10000 : Nat) : Int), 0) = some (bytesOf (dP (4 * (i + 1)) n).reverse) := by
  have hlen : ∀ m x, (bytesOf (dP m x).reverse).length = m := by intro m x; unfold bytesOf; rw [List.length_map, List.length_reverse, dP_len]
  have hd : ∀ j, j < 4 → n / 10000 ^ i % 10000 / 10 ^ j % 10 = n / 10 ^ (4 * i + j) % 10 := by
    intro j hj
    rw [four_digit hj, Nat.pow_add, pow_four, Nat.div_div_eq_div_mul]
  have hX : n / 10000 ^ i % 10000 < 10000 := Nat.mod_lt _ (by decide)
  generalize n / 10000 ^ i % 10000 = X at *
  obtain ⟨r, hr, rfl⟩ := Loop_run (body := fun (s : (List UInt8) × Int × Int) => m_r_ZText_l2 s.1 s.2.1 s.2.2) (bytesOf (dP (4 * i) n).reverse, (X : Int), 0)
    (fun s => ∃ j : Nat, j ≤ 4 ∧ s = (bytesOf (dP (4 * i + j) n).reverse, ((X / 10 ^ j : Nat) : Int), (j : Int))) (fun s => (4 - s.2.2).toNat) (fun r => r = bytesOf (dP (4 * (i + 1)) n).reverse) ⟨0, by omega, by rw [Nat.pow_zero, Nat.div_one]; rfl⟩ (by
    rintro s ⟨j, hj, rfl⟩
    simp only
    by_cases h4 : j = 4
    · right
      subst h4
      exact ⟨_, text_l2_done _ _, rfl⟩
    · left
      have hlt : X / 10 ^ j < 10000 := Nat.lt_of_le_of_lt (Nat.div_le_self _ _) hX
      rw [text_l2_step _ _ j hlt (by omega) (by rw [hlen]; omega)]
      refine ⟨_, rfl, ⟨j + 1, by omega, ?_⟩, by simp only; omega⟩
      rw [← Nat.add_assoc, bytes_snoc, hd j (by omega), Nat.div_div_eq_div_mul, ← Nat.pow_succ])
  exact hr
theorem text_l1_is (n : Nat) (hn : sm n) : Loop (fun (s : (List UInt8) × Int) => m_r_ZText_l1 (dg10 n) s.1 s.2) (([] : List UInt8), 0) = some (bytesOf (dP (4 * (dg10 n).length) n).reverse) := by
  have ln := dg10_len hn
  obtain ⟨r, hr, rfl⟩ := Loop_run (body := fun (s : (List UInt8) × Int) => m_r_ZText_l1 (dg10 n) s.1 s.2) (([] : List UInt8), 0)
    (fun s => ∃ i : Nat, i ≤ (dg10 n).length ∧ s = (bytesOf (dP (4 * i) n).reverse, (i : Int))) (fun s => ((dg10 n).length - s.2).toNat) (fun r => r = bytesOf (dP (4 * (dg10 n).length) n).reverse) ⟨0, Nat.zero_le _, rfl⟩ (by
    rintro s ⟨i, hi, rfl⟩
    simp only
    unfold m_r_ZText_l1
    by_cases h : i < (dg10 n).length
    · left
      rw [if_pos (decide_eq_true (by omega)), dg10_ix h, Option.bind_some, text_l2_is n i (by omega)]
      simp only [Option.bind_some]
      have e4 : IntKind.i64.wrap ((i : Int) + 1) = ((i + 1 : Nat) : Int) := by rw [i64_in (by omega)]; omega
      rw [e4]
      exact ⟨_, rfl, ⟨i + 1, h, rfl⟩, by simp only; omega⟩
    · right
      rw [if_neg (by simp; omega)]
      exact ⟨_, rfl, by rw [show i = (dg10 n).length from by omega]⟩)
  exact hr
theorem strip_is (k : Nat) (c : UInt8) (t : List UInt8) (hc : c ≠ 48) : Loop (fun (s : (List UInt8)) => m_r_ZText_l3 s) (List.replicate k 48 ++ c :: t) = some (c :: t) := by
  obtain ⟨r, hr, rfl⟩ := Loop_run (body := fun (s : (List UInt8)) => m_r_ZText_l3 s) (List.replicate k 48 ++ c :: t) (fun s => ∃ k, s = List.replicate k 48 ++ c :: t) (fun s => s.length) (fun r => r = c :: t) ⟨k, rfl⟩ (by
    rintro s ⟨k, rfl⟩
    unfold m_r_ZText_l3
    cases k with
    | zero =>
      right
      have h1 : ix (List.replicate 0 48 ++ c :: t) 0 = some c := rfl
      have h2 : ¬ ((c.toNat : Int) == 48) = true := by
        rw [beq_iff_eq]
        intro h
        apply hc
        apply UInt8.toNat_inj.1
        rw [show (48 : UInt8).toNat = 48 from rfl]; omega
      rw [h1, Option.bind_some, if_neg h2]
      exact ⟨_, rfl, rfl⟩
    | succ k =>
      left
      have h1 : ix (List.replicate (k + 1) 48 ++ c :: t) 0 = some 48 := rfl
      rw [h1, Option.bind_some, if_pos (by decide)]
      refine ⟨_, must_of ⟨by omega, ?_⟩ rfl, ⟨k, rfl⟩, ?_⟩
      · simp only [List.replicate_succ, List.cons_append, List.length_cons]; omega
      · simp only [List.replicate_succ, List.cons_append, List.length_cons, show (1 : Int).toNat = 1 from rfl, List.drop_succ_cons, List.drop_zero]; omega)
  exact hr
theorem bytes_rep (k : Nat) : bytesOf (List.replicate k 48) = List.replicate k 48 := by
  unfold bytesOf; rw [List.map_replicate]; rfl
theorem ZText_is (neg : Bool) (n : Nat) (hn : sm n) (h0 : n = 0 → neg = false) : m_r_ZText neg (dg10 n) = some ((if neg then [45] else []) ++ decL n) := by
  have ln := dg10_len hn
  unfold m_r_ZText
  rw [zlen_zero]
  by_cases hz : n = 0
  · subst hz
    rw [h0 rfl]; rfl
  · rw [if_neg (by simpa using hz), text_l1_is n hn]
    simp only [Option.bind_some]
    obtain ⟨k, hk⟩ := dP_dR (4 * (dg10 n).length) n (by rw [pow_four]; exact dg10_bd n)
    obtain ⟨d, l, e, hd1, hd2⟩ := dR_last n hz
    have hdec : decL n = UInt8.ofNat (48 + d) :: bytesOf l.reverse := by
      unfold decL
      rw [if_neg hz, e, List.reverse_append]
      simp only [List.reverse_cons, List.reverse_nil, List.nil_append, List.singleton_append, bytesOf, List.map_cons, Int.toNat_natCast]
    have hall : bytesOf (dP (4 * (dg10 n).length) n).reverse = List.replicate k 48 ++ decL n := by
      rw [hk, List.reverse_append, List.reverse_replicate, bytesOf_append, bytes_rep]
      unfold decL; rw [if_neg hz]
    have hne : UInt8.ofNat (48 + d) ≠ 48 := by
      intro h
      have h1 := congrArg UInt8.toNat h
      rw [UInt8.toNat_ofNat', show (48 : UInt8).toNat = 48 from rfl] at h1
      omega
    rw [hall, hdec, strip_is k _ _ hne, Option.bind_some, ← hdec]
    have hl : (decL n).length ≤ 4398046511105 := decL_len hn
    cases neg
    · rw [if_neg (by decide), if_neg (by decide)]; rfl
    · rw [if_pos rfl, if_pos rfl]; exact must_of (by simp only [List.length_cons, List.length_nil]; omega) rfl
theorem decv_blen : ∀ (s : List UInt8), decs s → decv s < 10 ^ s.length := by
  intro s
  have key : ∀ (n : Nat) (l : List UInt8), l.length = n → decs l → decv l < 10 ^ n := by
    intro n
    induction n with
    | zero => intro l hl _; rw [List.length_eq_zero_iff.1 hl]; simp [decv]
    | succ n ih =>
      intro l hl hd
      have hne : l ≠ [] := by intro h; rw [h] at hl; simp at hl
      obtain ⟨m, b, rfl⟩ : ∃ m b, l = m ++ [b] := ⟨l.dropLast, l.getLast hne, (List.dropLast_concat_getLast hne).symm⟩
      have hm : m.length = n := by simpa using hl
      have h1 := ih m hm (fun c hc => hd c (by simp [hc]))
      have h2 := hd b (by simp)
      rw [decv_snoc, Nat.pow_succ]; omega
  exact key s.length s rfl
theorem decv_sm {s : List UInt8} (hd : decs s) (hl : s.length ≤ 1000000000000) : blen (decv s) ≤ 4 * s.length := by
  have := decv_blen s hd
  refine blen_le_iff.2 (Nat.lt_of_lt_of_le this ?_)
  rw [Nat.pow_mul]; exact Nat.pow_le_pow_left (by decide) _
end Go.Am
namespace Go.Am
open Go.RowKit
set_option maxRecDepth 100000
noncomputable section
def m_r_Q_den (a1 : Bool) (a2 : List Int) (a3 : Bool) (a4 : List Int) : Option (Bool × (List Int)) := (if ((a4.length : Int) == 0) = true then (m_r_ZInt 1).bind fun (v6, v7) => some (v6, v7) else some (a3, a4))
theorem C_r_Q_den {a1 : Bool} {a2 : List Int} {a3 : Bool} {a4 : List Int} {r9 : Bool} {r10 : List Int} (h : m_r_Q_den a1 a2 a3 a4 = some (r9, r10)) : CtrG PP 173 [] [D.agg ([D.bool a1, slcE (Enc.int .i64) a2, D.bool a3, slcE (Enc.int .i64) a4])] [] (D.agg ([D.bool r9, slcE (Enc.int .i64) r10])) := by
  unfold m_r_Q_den at h
  refine .of Go.Proofs.Tryz.func173 rfl (by kernel_rfl) rfl rfl rfl rfl rfl rfl (fun A w0 L b => ?_)
  show Ok PP _ [(0, D.agg ([D.bool a1, slcE (Enc.int .i64) a2, D.bool a3, slcE (Enc.int .i64) a4]))] [] _ _
  refine .reg (.bxA rfl rfl <| .alL ([D.bool false, D.nil]) z_ambleref01_Z ⟨.refl _, .refl _, trivial⟩ rfl <| .nil) rfl ?_
  refine .sq ?_
  refine .reg (.fa rfl f_ambleref01_Q_1 <| .fa rfl f_ambleref01_Z_1 <| .ldE1 (slcE (Enc.int .i64) a4) rfl rfl ly_Lint rfl <| .lnE rfl is_Lint <| .cm rfl rfl rfl <| .nil) rfl ?_
  by_cases c5 : ((a4.length : Int) == 0) = true
  · replace h := ite_pos_some c5 h
    refine .cTb rfl c5 ?_
    obtain ⟨⟨v6, v7⟩, e8, h⟩ := bind_some h
    refine .reg (.callG (C_r_ZInt e8) ⟨rfl, trivial⟩ trivial trivial <| .stE ([D.bool v6, slcE (Enc.int .i64) v7]) rfl rfl rfl ly_ambleref01_Z rfl rfl rfl <| .nil) rfl ?_
    cases h
    refine .retG (fun _ _ hb => hb) rfl (.cons (.agg rfl rfl ly_ambleref01_Z rfl) .nil) (.refl _) trivial trivial
  · replace h := ite_neg_some c5 h
    refine .cFb rfl c5 ?_
    refine .skip (Ok.on ?_)
    refine .reg (.fa rfl f_ambleref01_Q_1 <| .ldE ([D.bool a3, slcE (Enc.int .i64) a4]) rfl rfl ly_ambleref01_Z rfl rfl <| .stE ([D.bool a3, slcE (Enc.int .i64) a4]) rfl rfl rfl ly_ambleref01_Z rfl rfl rfl <| .nil) rfl ?_
    cases h
    refine .retG (fun _ _ hb => hb) rfl (.cons (.agg rfl rfl ly_ambleref01_Z rfl) .nil) (.refl _) trivial trivial
def m_r_QOf (a1 : Bool) (a2 : List Int) (a3 : Bool) (a4 : List Int) : Option ((Bool × (List Int)) × (Bool × (List Int))) := ((if a3 = true then (m_r_ZNeg a1 a2).bind fun (v8, v9) => (m_r_ZNeg a3 a4).bind fun (v11, v12) => some ((v8, v9, v11, v12)) else some ((a1, a2, a3, a4)))).bind fun (v14, v15, v16, v17) => (m_r_ZGcd v14 v15 v16 v17).bind fun (v18, v19) => ((if ((v19.length : Int) == 1) = true then (ix v19 0).bind fun v24 => (if (v24 == 1) = true then some (Ex.ret ((v14, v15), (v16, v17))) else some (Ex.brk ())) else some (Ex.brk ()))).bind fun o21 => (match o21 with | Ex.brk () => (m_r_over v15 v19).bind fun (v27, v28) => (m_r_over v17 v19).bind fun (v30, v31) => (m_r_signed v14 v27).bind fun (v33, v34) => (m_r_signed false v30).bind fun (v36, v37) => some ((v33, v34), (v36, v37)) | Ex.ret ((r39, r40), (r41, r42)) => some ((r39, r40), (r41, r42)))
theorem C_r_QOf {a1 : Bool} {a2 : List Int} {a3 : Bool} {a4 : List Int} {r43 : Bool} {r44 : List Int} {r45 : Bool} {r46 : List Int} (h : m_r_QOf a1 a2 a3 a4 = some ((r43, r44), (r45, r46))) : CtrG PP 161 [] [D.agg ([D.bool a1, slcE (Enc.int .i64) a2]), D.agg ([D.bool a3, slcE (Enc.int .i64) a4])] [] (D.agg ([D.bool r43, slcE (Enc.int .i64) r44, D.bool r45, slcE (Enc.int .i64) r46])) := by
  unfold m_r_QOf at h
  refine .of Go.Proofs.Tryz.func161 rfl (by kernel_rfl) rfl rfl rfl rfl rfl rfl (fun A w0 L b => ?_)
  show Ok PP _ [(0, D.agg ([D.bool a1, slcE (Enc.int .i64) a2])), (1, D.agg ([D.bool a3, slcE (Enc.int .i64) a4]))] [] _ _
  refine .reg (.bxA rfl rfl <| .bxA rfl rfl <| .alL ([D.bool false, D.nil, D.bool false, D.nil]) z_ambleref01_Q ⟨.refl _, .refl _, .refl _, .refl _, trivial⟩ rfl <| .nil) rfl ?_
  obtain ⟨o5, hp6, h⟩ := bind_some h
  refine .cutX (fun i => o5 = i) (fun (i : Bool × (List Int) × Bool × (List Int)) => [(2, D.ref 2 0), (3, D.ref 3 0), (4, D.ref 4 0)]) (fun (i : Bool × (List Int) × Bool × (List Int)) => [(2, Hp.box 35 ([D.bool i.1, slcE (Enc.int .i64) i.2.1])), (3, Hp.box 35 ([D.bool i.2.2.1, slcE (Enc.int .i64) i.2.2.2])), (4, Hp.box 37 ([D.bool false, D.nil, D.bool false, D.nil]))]) ?_ ?_
  · have ho1 := h
    clear h
    have h := hp6
    clear hp6
    refine .reg (.fa rfl f_ambleref01_Z_0 <| .ldE1 (D.bool a3) rfl rfl ly_bool rfl <| .nil) rfl ?_
    by_cases c7 : a3 = true
    · replace h := ite_pos_some c7 h
      refine .cTb rfl c7 ?_
      obtain ⟨⟨v8, v9⟩, e10, h⟩ := bind_some h
      obtain ⟨⟨v11, v12⟩, e13, h⟩ := bind_some h
      refine .regionD hmix (.ldE ([D.bool a1, slcE (Enc.int .i64) a2]) rfl rfl ly_ambleref01_Z rfl rfl <| .callG (C_r_ZNeg e10) ⟨rfl, trivial⟩ trivial trivial <| .ldE ([D.bool a3, slcE (Enc.int .i64) a4]) rfl rfl ly_ambleref01_Z rfl rfl <| .callG (C_r_ZNeg e13) ⟨rfl, trivial⟩ trivial trivial <| .stE ([D.bool v8, slcE (Enc.int .i64) v9]) rfl rfl rfl ly_ambleref01_Z rfl rfl rfl <| .stE ([D.bool v11, slcE (Enc.int .i64) v12]) rfl rfl rfl ly_ambleref01_Z rfl rfl rfl <| .nil) rfl (by kernel_rfl) (fun _ _ hs => ⟨(v8, v9, v11, v12), (Option.some.inj h).symm, hs.sub ⟨⟨_, rfl, .refl _⟩, ⟨_, rfl, .refl _⟩, ⟨_, rfl, .refl _⟩, trivial⟩ ⟨⟨_, rfl, .refl _⟩, ⟨_, rfl, .refl _⟩, ⟨_, rfl, .refl _⟩, trivial⟩ rfl rfl⟩)
    · replace h := ite_neg_some c7 h
      refine .cFb rfl c7 ?_
      refine .skip (fun _ _ hs => ⟨(a1, a2, a3, a4), (Option.some.inj h).symm, hs.sub ⟨⟨_, rfl, .refl _⟩, ⟨_, rfl, .refl _⟩, ⟨_, rfl, .refl _⟩, trivial⟩ ⟨⟨_, rfl, .refl _⟩, ⟨_, rfl, .refl _⟩, ⟨_, rfl, .refl _⟩, trivial⟩ rfl rfl⟩)
  · rintro ⟨v14, v15, v16, v17⟩ rfl
    show Ok PP _ [(2, D.ref 2 0), (3, D.ref 3 0), (4, D.ref 4 0)] [(2, Hp.box 35 ([D.bool v14, slcE (Enc.int .i64) v15])), (3, Hp.box 35 ([D.bool v16, slcE (Enc.int .i64) v17])), (4, Hp.box 37 ([D.bool false, D.nil, D.bool false, D.nil]))] _ _
    obtain ⟨⟨v18, v19⟩, e20, h⟩ := bind_some h
    refine .reg (.ldE ([D.bool v14, slcE (Enc.int .i64) v15]) rfl rfl ly_ambleref01_Z rfl rfl <| .ldE ([D.bool v16, slcE (Enc.int .i64) v17]) rfl rfl ly_ambleref01_Z rfl rfl <| .callG (C_r_ZGcd e20) ⟨rfl, rfl, trivial⟩ trivial trivial <| .alL ([D.bool false, D.nil]) z_ambleref01_Z ⟨.refl _, .refl _, trivial⟩ rfl <| .stE ([D.bool v18, slcE (Enc.int .i64) v19]) rfl rfl rfl ly_ambleref01_Z rfl rfl rfl <| .nil) rfl ?_
    obtain ⟨o21, hp22, h⟩ := bind_some h
    refine .cutX (fun i => o21 = Ex.brk i) (fun (i : Unit) => [(2, D.ref 2 0), (3, D.ref 3 0), (4, D.ref 4 0), (5, D.ref 5 0)]) (fun (i : Unit) => [(2, Hp.box 35 ([D.bool v14, slcE (Enc.int .i64) v15])), (3, Hp.box 35 ([D.bool v16, slcE (Enc.int .i64) v17])), (4, Hp.box 37 ([D.bool false, D.nil, D.bool false, D.nil])), (5, Hp.box 35 ([D.bool v18, slcE (Enc.int .i64) v19]))]) ?_ ?_
    · have ho1 := h
      clear h
      have h := hp22
      clear hp22
      by_cases c23 : ((v19.length : Int) == 1) = true
      · replace h := ite_pos_some c23 h
        obtain ⟨v24, e25, h⟩ := bind_some h
        refine .reg (.fa rfl f_ambleref01_Z_1 <| .ldE1 (slcE (Enc.int .i64) v19) rfl rfl ly_Lint rfl <| .lnE rfl is_Lint <| .cm rfl rfl rfl <| .mv rfl <| .gYt rfl rfl rfl c23 <| .fa rfl f_ambleref01_Z_1 <| .gYt rfl rfl rfl c23 <| .ldE1 (slcE (Enc.int .i64) v19) rfl rfl ly_Lint rfl <| .gYt rfl rfl rfl c23 <| .ixE rfl rfl se_Lint (ix_some e25).1 (ix_some e25).2 <| .gYt rfl rfl rfl c23 <| .lp1 rfl ly_int <| .gYt rfl rfl rfl c23 <| .cm rfl rfl rfl <| .pkTb rfl c23 rfl <| .nil) rfl ?_
        by_cases c26 : (v24 == 1) = true
        · replace h := ite_pos_some c26 h
          refine .cTb rfl c26 ?_
          refine .reg (.ldE ([D.bool v14, slcE (Enc.int .i64) v15]) rfl rfl ly_ambleref01_Z rfl rfl <| .ldE ([D.bool v16, slcE (Enc.int .i64) v17]) rfl rfl ly_ambleref01_Z rfl rfl <| .bdQ ([D.bool v14, slcE (Enc.int .i64) v15, D.bool v16, slcE (Enc.int .i64) v17]) [(0, _, D.agg ([D.bool v14, slcE (Enc.int .i64) v15]), [D.bool v14, slcE (Enc.int .i64) v15]), (2, _, D.agg ([D.bool v16, slcE (Enc.int .i64) v17]), [D.bool v16, slcE (Enc.int .i64) v17])] z_ambleref01_Q pl_ambleref01_Q ⟨rfl, rfl, .agg _, rfl, rfl, rfl, .agg _, rfl, trivial⟩ ⟨rfl, rfl, trivial⟩ ⟨.refl _, .refl _, .refl _, .refl _, trivial⟩ <| .stE ([D.bool v14, slcE (Enc.int .i64) v15, D.bool v16, slcE (Enc.int .i64) v17]) rfl rfl rfl ly_ambleref01_Q rfl rfl rfl <| .nil) rfl ?_
          cases h
          have h := ho1
          clear ho1
          cases h
          refine .retG (fun _ _ hb => hb) rfl (.cons (.agg rfl rfl ly_ambleref01_Q rfl) .nil) (.refl _) trivial trivial
        · replace h := ite_neg_some c26 h
          refine .cFb rfl c26 ?_
          refine .skip (fun _ _ hs => ⟨(), (Option.some.inj h).symm, hs.sub ⟨⟨_, rfl, .refl _⟩, ⟨_, rfl, .refl _⟩, ⟨_, rfl, .refl _⟩, ⟨_, rfl, .refl _⟩, trivial⟩ ⟨⟨_, rfl, .refl _⟩, ⟨_, rfl, .refl _⟩, ⟨_, rfl, .refl _⟩, ⟨_, rfl, .refl _⟩, trivial⟩ rfl rfl⟩)
      · replace h := ite_neg_some c23 h
        refine .reg (.fa rfl f_ambleref01_Z_1 <| .ldE1 (slcE (Enc.int .i64) v19) rfl rfl ly_Lint rfl <| .lnE rfl is_Lint <| .cm rfl rfl rfl <| .mv rfl <| .gNt rfl rfl rfl c23 <| .gNt rfl rfl rfl c23 <| .gNt rfl rfl rfl c23 <| .gNt rfl rfl rfl c23 <| .gNt rfl rfl rfl c23 <| .pkFb rfl c23 rfl <| .nil) rfl ?_
        refine .cFb rfl (by decide) ?_
        refine .skip (fun _ _ hs => ⟨(), (Option.some.inj h).symm, hs.sub ⟨⟨_, rfl, .refl _⟩, ⟨_, rfl, .refl _⟩, ⟨_, rfl, .refl _⟩, ⟨_, rfl, .refl _⟩, trivial⟩ ⟨⟨_, rfl, .refl _⟩, ⟨_, rfl, .refl _⟩, ⟨_, rfl, .refl _⟩, ⟨_, rfl, .refl _⟩, trivial⟩ rfl rfl⟩)
    · rintro ⟨⟩ rfl
      show Ok PP _ [(2, D.ref 2 0), (3, D.ref 3 0), (4, D.ref 4 0), (5, D.ref 5 0)] [(2, Hp.box 35 ([D.bool v14, slcE (Enc.int .i64) v15])), (3, Hp.box 35 ([D.bool v16, slcE (Enc.int .i64) v17])), (4, Hp.box 37 ([D.bool false, D.nil, D.bool false, D.nil])), (5, Hp.box 35 ([D.bool v18, slcE (Enc.int .i64) v19]))] _ _
      obtain ⟨⟨v27, v28⟩, e29, h⟩ := bind_some h
      refine .reg (.fa rfl f_ambleref01_Z_1 <| .ldE1 (slcE (Enc.int .i64) v15) rfl rfl ly_Lint rfl <| .fa rfl f_ambleref01_Z_1 <| .ldE1 (slcE (Enc.int .i64) v19) rfl rfl ly_Lint rfl <| .callG (C_r_over e29) ⟨rfl, rfl, trivial⟩ trivial trivial <| .mv rfl <| .ext rfl rfl <| .ext rfl rfl <| .asg rfl <| .asg rfl <| .nil) rfl ?_
      obtain ⟨⟨v30, v31⟩, e32, h⟩ := bind_some h
      refine .reg (.fa rfl f_ambleref01_Z_1 <| .ldE1 (slcE (Enc.int .i64) v17) rfl rfl ly_Lint rfl <| .fa rfl f_ambleref01_Z_1 <| .ldE1 (slcE (Enc.int .i64) v19) rfl rfl ly_Lint rfl <| .callG (C_r_over e32) ⟨rfl, rfl, trivial⟩ trivial trivial <| .mv rfl <| .ext rfl rfl <| .ext rfl rfl <| .asg rfl <| .asg rfl <| .nil) rfl ?_
      obtain ⟨⟨v33, v34⟩, e35, h⟩ := bind_some h
      obtain ⟨⟨v36, v37⟩, e38, h⟩ := bind_some h
      refine .reg (.fa rfl f_ambleref01_Z_0 <| .ldE1 (D.bool v14) rfl rfl ly_bool rfl <| .mv rfl <| .callG (C_r_signed e35) ⟨rfl, rfl, trivial⟩ trivial trivial <| .mv rfl <| .callG (C_r_signed e38) ⟨rfl, rfl, trivial⟩ trivial trivial <| .bdQ ([D.bool v33, slcE (Enc.int .i64) v34, D.bool v36, slcE (Enc.int .i64) v37]) [(0, _, D.agg ([D.bool v33, slcE (Enc.int .i64) v34]), [D.bool v33, slcE (Enc.int .i64) v34]), (2, _, D.agg ([D.bool v36, slcE (Enc.int .i64) v37]), [D.bool v36, slcE (Enc.int .i64) v37])] z_ambleref01_Q pl_ambleref01_Q ⟨rfl, rfl, .agg _, rfl, rfl, rfl, .agg _, rfl, trivial⟩ ⟨rfl, rfl, trivial⟩ ⟨.refl _, .refl _, .refl _, .refl _, trivial⟩ <| .stE ([D.bool v33, slcE (Enc.int .i64) v34, D.bool v36, slcE (Enc.int .i64) v37]) rfl rfl rfl ly_ambleref01_Q rfl rfl rfl <| .nil) rfl ?_
      cases h
      refine .retG (fun _ _ hb => hb) rfl (.cons (.agg rfl rfl ly_ambleref01_Q rfl) .nil) (.refl _) trivial trivial
def m_r_Of (a1 : Int) (a2 : Int) : Option ((Bool × (List Int)) × (Bool × (List Int))) := (m_r_ZInt a1).bind fun (v3, v4) => (m_r_ZInt a2).bind fun (v6, v7) => (m_r_QOf v3 v4 v6 v7).bind fun ((v9, v10), (v11, v12)) => some ((v9, v10), (v11, v12))
theorem C_r_Of {a1 : Int} {a2 : Int} {r14 : Bool} {r15 : List Int} {r16 : Bool} {r17 : List Int} (h : m_r_Of a1 a2 = some ((r14, r15), (r16, r17))) : CtrG PP 37 [] [D.int .i64 a1, D.int .i64 a2] [] (D.agg ([D.bool r14, slcE (Enc.int .i64) r15, D.bool r16, slcE (Enc.int .i64) r17])) := by
  unfold m_r_Of at h
  refine .of Go.Proofs.Tryz.func37 rfl (by kernel_rfl) rfl rfl rfl rfl rfl rfl (fun A w0 L b => ?_)
  show Ok PP _ [(0, D.int .i64 a1), (1, D.int .i64 a2)] [] _ _
  refine .reg (.alL ([D.bool false, D.nil, D.bool false, D.nil]) z_ambleref01_Q ⟨.refl _, .refl _, .refl _, .refl _, trivial⟩ rfl <| .nil) rfl ?_
  obtain ⟨⟨v3, v4⟩, e5, h⟩ := bind_some h
  obtain ⟨⟨v6, v7⟩, e8, h⟩ := bind_some h
  obtain ⟨⟨⟨v9, v10⟩, ⟨v11, v12⟩⟩, e13, h⟩ := bind_some h
  refine .reg (.mv rfl <| .callG (C_r_ZInt e5) ⟨rfl, trivial⟩ trivial trivial <| .mv rfl <| .callG (C_r_ZInt e8) ⟨rfl, trivial⟩ trivial trivial <| .callG (C_r_QOf e13) ⟨rfl, rfl, trivial⟩ trivial trivial <| .stE ([D.bool v9, slcE (Enc.int .i64) v10, D.bool v11, slcE (Enc.int .i64) v12]) rfl rfl rfl ly_ambleref01_Q rfl rfl rfl <| .nil) rfl ?_
  cases h
  refine .retG (fun _ _ hb => hb) rfl (.cons (.agg rfl rfl ly_ambleref01_Q rfl) .nil) (.refl _) trivial trivial
def m_r_Add (a1 : Bool) (a2 : List Int) (a3 : Bool) (a4 : List Int) (a5 : Bool) (a6 : List Int) (a7 : Bool) (a8 : List Int) : Option ((Bool × (List Int)) × (Bool × (List Int))) := (m_r_Q_den a5 a6 a7 a8).bind fun (v9, v10) => (m_r_ZMul a1 a2 v9 v10).bind fun (v12, v13) => (m_r_Q_den a1 a2 a3 a4).bind fun (v15, v16) => (m_r_ZMul a5 a6 v15 v16).bind fun (v18, v19) => (m_r_ZAdd v12 v13 v18 v19).bind fun (v21, v22) => (m_r_Q_den a1 a2 a3 a4).bind fun (v24, v25) => (m_r_Q_den a5 a6 a7 a8).bind fun (v27, v28) => (m_r_ZMul v24 v25 v27 v28).bind fun (v30, v31) => (m_r_QOf v21 v22 v30 v31).bind fun ((v33, v34), (v35, v36)) => some ((v33, v34), (v35, v36))
theorem C_r_Add {a1 : Bool} {a2 : List Int} {a3 : Bool} {a4 : List Int} {a5 : Bool} {a6 : List Int} {a7 : Bool} {a8 : List Int} {r38 : Bool} {r39 : List Int} {r40 : Bool} {r41 : List Int} (h : m_r_Add a1 a2 a3 a4 a5 a6 a7 a8 = some ((r38, r39), (r40, r41))) : CtrG PP 43 [] [D.agg ([D.bool a1, slcE (Enc.int .i64) a2, D.bool a3, slcE (Enc.int .i64) a4]), D.agg ([D.bool a5, slcE (Enc.int .i64) a6, D.bool a7, slcE (Enc.int .i64) a8])] [] (D.agg ([D.bool r38, slcE (Enc.int .i64) r39, D.bool r40, slcE (Enc.int .i64) r41])) := by
  unfold m_r_Add at h
  refine .of Go.Proofs.Tryz.func43 rfl (by kernel_rfl) rfl rfl rfl rfl rfl rfl (fun A w0 L b => ?_)
  show Ok PP _ [(0, D.agg ([D.bool a1, slcE (Enc.int .i64) a2, D.bool a3, slcE (Enc.int .i64) a4])), (1, D.agg ([D.bool a5, slcE (Enc.int .i64) a6, D.bool a7, slcE (Enc.int .i64) a8]))] [] _ _
  refine .reg (.bxA rfl rfl <| .bxA rfl rfl <| .alL ([D.bool false, D.nil, D.bool false, D.nil]) z_ambleref01_Q ⟨.refl _, .refl _, .refl _, .refl _, trivial⟩ rfl <| .nil) rfl ?_
  obtain ⟨⟨v9, v10⟩, e11, h⟩ := bind_some h
  obtain ⟨⟨v12, v13⟩, e14, h⟩ := bind_some h
  obtain ⟨⟨v15, v16⟩, e17, h⟩ := bind_some h
  obtain ⟨⟨v18, v19⟩, e20, h⟩ := bind_some h
  obtain ⟨⟨v21, v22⟩, e23, h⟩ := bind_some h
  obtain ⟨⟨v24, v25⟩, e26, h⟩ := bind_some h
  obtain ⟨⟨v27, v28⟩, e29, h⟩ := bind_some h
  obtain ⟨⟨v30, v31⟩, e32, h⟩ := bind_some h
  obtain ⟨⟨⟨v33, v34⟩, ⟨v35, v36⟩⟩, e37, h⟩ := bind_some h
  refine .regD hmix (.fa rfl f_ambleref01_Q_0 <| .ldE ([D.bool a1, slcE (Enc.int .i64) a2]) rfl rfl ly_ambleref01_Z rfl rfl <| .ldE ([D.bool a5, slcE (Enc.int .i64) a6, D.bool a7, slcE (Enc.int .i64) a8]) rfl rfl ly_ambleref01_Q rfl rfl <| .callG (C_r_Q_den e11) ⟨rfl, trivial⟩ trivial trivial <| .callG (C_r_ZMul e14) ⟨rfl, rfl, trivial⟩ trivial trivial <| .fa rfl f_ambleref01_Q_0 <| .ldE ([D.bool a5, slcE (Enc.int .i64) a6]) rfl rfl ly_ambleref01_Z rfl rfl <| .ldE ([D.bool a1, slcE (Enc.int .i64) a2, D.bool a3, slcE (Enc.int .i64) a4]) rfl rfl ly_ambleref01_Q rfl rfl <| .callG (C_r_Q_den e17) ⟨rfl, trivial⟩ trivial trivial <| .callG (C_r_ZMul e20) ⟨rfl, rfl, trivial⟩ trivial trivial <| .callG (C_r_ZAdd e23) ⟨rfl, rfl, trivial⟩ trivial trivial <| .ldE ([D.bool a1, slcE (Enc.int .i64) a2, D.bool a3, slcE (Enc.int .i64) a4]) rfl rfl ly_ambleref01_Q rfl rfl <| .callG (C_r_Q_den e26) ⟨rfl, trivial⟩ trivial trivial <| .ldE ([D.bool a5, slcE (Enc.int .i64) a6, D.bool a7, slcE (Enc.int .i64) a8]) rfl rfl ly_ambleref01_Q rfl rfl <| .callG (C_r_Q_den e29) ⟨rfl, trivial⟩ trivial trivial <| .callG (C_r_ZMul e32) ⟨rfl, rfl, trivial⟩ trivial trivial <| .callG (C_r_QOf e37) ⟨rfl, rfl, trivial⟩ trivial trivial <| .stE ([D.bool v33, slcE (Enc.int .i64) v34, D.bool v35, slcE (Enc.int .i64) v36]) rfl rfl rfl ly_ambleref01_Q rfl rfl rfl <| .nil) rfl (by kernel_rfl) ?_
  cases h
  refine .retG (fun _ _ hb => hb) rfl (.cons (.agg rfl rfl ly_ambleref01_Q rfl) .nil) (.refl _) trivial trivial
def m_r_Mul (a1 : Bool) (a2 : List Int) (a3 : Bool) (a4 : List Int) (a5 : Bool) (a6 : List Int) (a7 : Bool) (a8 : List Int) : Option ((Bool × (List Int)) × (Bool × (List Int))) := (m_r_ZMul a1 a2 a5 a6).bind fun (v9, v10) => (m_r_Q_den a1 a2 a3 a4).bind fun (v12, v13) => (m_r_Q_den a5 a6 a7 a8).bind fun (v15, v16) => (m_r_ZMul v12 v13 v15 v16).bind fun (v18, v19) => (m_r_QOf v9 v10 v18 v19).bind fun ((v21, v22), (v23, v24)) => some ((v21, v22), (v23, v24))
theorem C_r_Mul {a1 : Bool} {a2 : List Int} {a3 : Bool} {a4 : List Int} {a5 : Bool} {a6 : List Int} {a7 : Bool} {a8 : List Int} {r26 : Bool} {r27 : List Int} {r28 : Bool} {r29 : List Int} (h : m_r_Mul a1 a2 a3 a4 a5 a6 a7 a8 = some ((r26, r27), (r28, r29))) : CtrG PP 47 [] [D.agg ([D.bool a1, slcE (Enc.int .i64) a2, D.bool a3, slcE (Enc.int .i64) a4]), D.agg ([D.bool a5, slcE (Enc.int .i64) a6, D.bool a7, slcE (Enc.int .i64) a8])] [] (D.agg ([D.bool r26, slcE (Enc.int .i64) r27, D.bool r28, slcE (Enc.int .i64) r29])) := by
  unfold m_r_Mul at h
  refine .of Go.Proofs.Tryz.func47 rfl (by kernel_rfl) rfl rfl rfl rfl rfl rfl (fun A w0 L b => ?_)
  show Ok PP _ [(0, D.agg ([D.bool a1, slcE (Enc.int .i64) a2, D.bool a3, slcE (Enc.int .i64) a4])), (1, D.agg ([D.bool a5, slcE (Enc.int .i64) a6, D.bool a7, slcE (Enc.int .i64) a8]))] [] _ _
  refine .reg (.bxA rfl rfl <| .bxA rfl rfl <| .alL ([D.bool false, D.nil, D.bool false, D.nil]) z_ambleref01_Q ⟨.refl _, .refl _, .refl _, .refl _, trivial⟩ rfl <| .nil) rfl ?_
  obtain ⟨⟨v9, v10⟩, e11, h⟩ := bind_some h
  obtain ⟨⟨v12, v13⟩, e14, h⟩ := bind_some h
  obtain ⟨⟨v15, v16⟩, e17, h⟩ := bind_some h
  obtain ⟨⟨v18, v19⟩, e20, h⟩ := bind_some h
  obtain ⟨⟨⟨v21, v22⟩, ⟨v23, v24⟩⟩, e25, h⟩ := bind_some h
  refine .regD hmix (.fa rfl f_ambleref01_Q_0 <| .ldE ([D.bool a1, slcE (Enc.int .i64) a2]) rfl rfl ly_ambleref01_Z rfl rfl <| .fa rfl f_ambleref01_Q_0 <| .ldE ([D.bool a5, slcE (Enc.int .i64) a6]) rfl rfl ly_ambleref01_Z rfl rfl <| .callG (C_r_ZMul e11) ⟨rfl, rfl, trivial⟩ trivial trivial <| .ldE ([D.bool a1, slcE (Enc.int .i64) a2, D.bool a3, slcE (Enc.int .i64) a4]) rfl rfl ly_ambleref01_Q rfl rfl <| .callG (C_r_Q_den e14) ⟨rfl, trivial⟩ trivial trivial <| .ldE ([D.bool a5, slcE (Enc.int .i64) a6, D.bool a7, slcE (Enc.int .i64) a8]) rfl rfl ly_ambleref01_Q rfl rfl <| .callG (C_r_Q_den e17) ⟨rfl, trivial⟩ trivial trivial <| .callG (C_r_ZMul e20) ⟨rfl, rfl, trivial⟩ trivial trivial <| .callG (C_r_QOf e25) ⟨rfl, rfl, trivial⟩ trivial trivial <| .stE ([D.bool v21, slcE (Enc.int .i64) v22, D.bool v23, slcE (Enc.int .i64) v24]) rfl rfl rfl ly_ambleref01_Q rfl rfl rfl <| .nil) rfl (by kernel_rfl) ?_
  cases h
  refine .retG (fun _ _ hb => hb) rfl (.cons (.agg rfl rfl ly_ambleref01_Q rfl) .nil) (.refl _) trivial trivial
def m_r_Text (a1 : Bool) (a2 : List Int) (a3 : Bool) (a4 : List Int) : Option (List UInt8) := (m_r_ZText a1 a2).bind fun v5 => (m_r_Q_den a1 a2 a3 a4).bind fun (v7, v8) => (m_r_ZText v7 v8).bind fun v10 => (if (v10 == ([49] : List UInt8)) = true then some v5 else must (v5.length + ([47] : List UInt8).length ≤ 9223372036854775807) (must ((v5 ++ ([47] : List UInt8)).length + v10.length ≤ 9223372036854775807) (some ((v5 ++ ([47] : List UInt8)) ++ v10))))
theorem C_r_Text {a1 : Bool} {a2 : List Int} {a3 : Bool} {a4 : List Int} {r15 : List UInt8} (h : m_r_Text a1 a2 a3 a4 = some r15) : CtrG PP 162 [] [D.agg ([D.bool a1, slcE (Enc.int .i64) a2, D.bool a3, slcE (Enc.int .i64) a4])] [] (strD r15) := by
  unfold m_r_Text at h
  refine .of Go.Proofs.Tryz.func162 rfl (by kernel_rfl) rfl rfl rfl rfl rfl rfl (fun A w0 L b => ?_)
  show Ok PP _ [(0, D.agg ([D.bool a1, slcE (Enc.int .i64) a2, D.bool a3, slcE (Enc.int .i64) a4]))] [] _ _
  refine .reg (.bxA rfl rfl <| .asg rfl <| .nil) rfl ?_
  obtain ⟨v5, e6, h⟩ := bind_some h
  refine .reg (.fa rfl f_ambleref01_Q_0 <| .ldE ([D.bool a1, slcE (Enc.int .i64) a2]) rfl rfl ly_ambleref01_Z rfl rfl <| .callG (C_r_ZText e6) ⟨rfl, trivial⟩ trivial trivial <| .asg rfl <| .nil) rfl ?_
  obtain ⟨⟨v7, v8⟩, e9, h⟩ := bind_some h
  obtain ⟨v10, e11, h⟩ := bind_some h
  refine .reg (.ldE ([D.bool a1, slcE (Enc.int .i64) a2, D.bool a3, slcE (Enc.int .i64) a4]) rfl rfl ly_ambleref01_Q rfl rfl <| .callG (C_r_Q_den e9) ⟨rfl, trivial⟩ trivial trivial <| .callG (C_r_ZText e11) ⟨rfl, trivial⟩ trivial trivial <| .asg rfl <| .nil) rfl ?_
  refine .sq ?_
  refine .reg (.mv rfl <| .teq rfl rfl <| .nil) rfl ?_
  by_cases c12 : (v10 == ([49] : List UInt8)) = true
  · replace h := ite_pos_some c12 h
    refine .cTb rfl c12 ?_
    refine .reg (.mv rfl <| .asg rfl <| .nil) rfl ?_
    cases h
    refine .retG (fun _ _ hb => hb) rfl (.cons (.tmp rfl) .nil) (.refl _) trivial trivial
  · replace h := ite_neg_some c12 h
    refine .cFb rfl c12 ?_
    refine .skip (Ok.on ?_)
    obtain ⟨k13, h⟩ := must_some h
    obtain ⟨k14, h⟩ := must_some h
    refine .reg (.mv rfl <| .tcat rfl rfl k13 <| .mv rfl <| .tcat rfl rfl k14 <| .asg rfl <| .nil) rfl ?_
    cases h
    refine .retG (fun _ _ hb => hb) rfl (.cons (.tmp rfl) .nil) (.refl _) trivial trivial
end
end Go.Am
namespace Go.Am
open Go.RowKit
abbrev denL (d : Nat) (l : List Int) : Prop := l = dg10 d ∨ (d = 1 ∧ l = [])
abbrev rqL (x : Rat) (l : List Int) : D := .agg [.bool (decide (x.num < 0)), slcE (Enc.int .i64) (dg10 x.num.natAbs), .bool false, slcE (Enc.int .i64) l]
theorem rq_open {x : Rat} {ε : Env} {w : World} {S : Reg} {v : Value} (h : (rqD x).p ε w S v) : ∃ l, denL x.den l ∧ (rqL x l).p ε w S v := by
  obtain ⟨cs, e, h1, ha⟩ := h
  rcases cs with _ | ⟨c1, _ | ⟨c2, _ | ⟨c3, _ | ⟨c4, cs⟩⟩⟩⟩
  · exact ha.elim
  · exact ha.2.elim
  · exact ha.2.2.elim
  · exact ha.2.2.2.elim
  · obtain ⟨a1, a2, a3, ⟨l, hl, hp⟩, a5⟩ := ha
    exact ⟨l, hl, _, e, h1, a1, a2, a3, hp, a5⟩
theorem CtrG.any {P : Program} {f : FuncId} {ds : List D} {d : D} {ι : Type} (dsi : ι → List D) (Q : ι → Prop) (i0 : ι) (h0 : Q i0) (h : ∀ i, Q i → CtrG P f [] (dsi i) [] d) (hn : nms ds = nms (dsi i0))
    (hc : ∀ ε w S vs, all2 ε w S ds vs → ∃ i, Q i ∧ all2 ε w S (dsi i) vs) : CtrG P f [] ds [] d where
  ok := (h i0 h0).ok
  nmd := by rw [hn]; exact (h i0 h0).nmd
  nmi := (h i0 h0).nmi
  nmo := (h i0 h0).nmo
  nmr := (h i0 h0).nmr
  keep := (h i0 h0).keep
  calls := by
    intro A w ε φ vs h1 h2 h3 hv
    obtain ⟨i, hq, hv'⟩ := hc _ _ _ _ hv
    exact (h i hq).calls A w ε φ vs h1 h2 h3 hv'
theorem CtrG.rq1 {P : Program} {f : FuncId} {a : Rat} {ds : List D} {d : D} (h : ∀ l, denL a.den l → CtrG P f [] (rqL a l :: ds) [] d) : CtrG P f [] (rqD a :: ds) [] d := by
  refine .any (fun l => rqL a l :: ds) (denL a.den) (dg10 a.den) (.inl rfl) h rfl ?_
  intro ε w S vs hv
  cases vs with
  | nil => exact hv.elim
  | cons v vs =>
    obtain ⟨l, hl, hp⟩ := rq_open hv.1
    exact ⟨l, hl, hp, hv.2⟩
theorem CtrG.rq2 {P : Program} {f : FuncId} {a b : Rat} {ds : List D} {d : D} (h : ∀ l m, denL a.den l → denL b.den m → CtrG P f [] (rqL a l :: rqL b m :: ds) [] d) : CtrG P f [] (rqD a :: rqD b :: ds) [] d := by
  refine .any (fun (x : List Int × List Int) => rqL a x.1 :: rqL b x.2 :: ds) (fun x => denL a.den x.1 ∧ denL b.den x.2) (dg10 a.den, dg10 b.den) ⟨.inl rfl, .inl rfl⟩ (fun x hx => h _ _ hx.1 hx.2) rfl ?_
  intro ε w S vs hv
  cases vs with
  | nil => exact hv.elim
  | cons v vs =>
    cases vs with
    | nil => exact hv.2.elim
    | cons v' vs =>
      obtain ⟨l, hl, hp⟩ := rq_open hv.1
      obtain ⟨m, hm, hp'⟩ := rq_open hv.2.1
      exact ⟨(l, m), ⟨hl, hm⟩, hp, hp', hv.2.2⟩
theorem CtrG.outR {P : Program} {f : FuncId} {ds : List D} {d d' : D} (h : CtrG P f [] ds [] d) (hd : Le d d') : CtrG P f [] ds [] d' := (h.plain.out hd).gen
theorem denD_of {d : Nat} : Le (slcE (Enc.int .i64) (dg10 d)) (denD d) := ⟨fun _ _ _ _ h => ⟨_, .inl rfl, h⟩, fun r hr => by cases hr⟩
theorem rq_close (x : Rat) : Le (rqL x (dg10 x.den)) (rqD x) := .agg ⟨.refl _, .refl _, .refl _, denD_of, trivial⟩
abbrev zz (z : Int) : Bool × List Int := (decide (z < 0), dg10 z.natAbs)
abbrev rr (x : Rat) : (Bool × List Int) × (Bool × List Int) := (zz x.num, (false, dg10 x.den))
theorem den_dg (d : Nat) (h : d ≠ 0) : ((dg10 d).length : Int) ≠ 0 := by
  have : (dg10 d).length ≠ 0 := fun k => h (dg10_len0.1 k)
  omega
theorem one_z : m_r_ZInt 1 = some (false, dg10 1) := ZInt_is 1 (by unfold i64r; omega)
theorem r_Q_den_is (a : Rat) (neg : Bool) (n : List Int) {l : List Int} (h : denL a.den l) : m_r_Q_den neg n false l = some (false, dg10 a.den) := by
  unfold m_r_Q_den
  rcases h with rfl | ⟨h1, rfl⟩
  · rw [if_neg (by rw [beq_iff_eq]; exact den_dg _ a.den_nz)]
  · rw [if_pos (by decide), one_z, h1]; rfl
theorem dg10_small {x : Nat} (h0 : x ≠ 0) (h : x < 10000) : dg10 x = [(x : Int)] := by
  rw [dg10_pos h0, Nat.mod_eq_of_lt h, Nat.div_eq_of_lt h, dg10_zero]
theorem one_test (g : Nat) (h0 : g ≠ 0) : (if (((dg10 g).length : Int) == 1) = true then (ix (dg10 g) 0).bind fun v24 => (if (v24 == 1) = true then some true else some false) else some false) = some (decide (g = 1)) := by
  by_cases h1 : g = 1
  · subst h1
    rw [dg10_small (by decide) (by decide)]; rfl
  · by_cases hl : (((dg10 g).length : Int) == 1) = true
    · rw [if_pos hl]
      have hl2 : (dg10 g).length = 1 := by rw [beq_iff_eq] at hl; omega
      have hlt := dg10_bd g
      rw [hl2] at hlt
      have e : dg10 g = [(g : Int)] := dg10_small h0 (by omega)
      rw [e]
      have : ix [(g : Int)] 0 = some (g : Int) := rfl
      rw [this, Option.bind_some, if_neg (by rw [beq_iff_eq]; omega), decide_eq_false h1]
    · rw [if_neg hl, decide_eq_false h1]
theorem one_sel {α : Type} (g : Nat) (h0 : g ≠ 0) (x y : α) : (if (((dg10 g).length : Int) == 1) = true then (ix (dg10 g) 0).bind fun v24 => (if (v24 == 1) = true then some x else some y) else some y) = some (if g = 1 then x else y) := by
  have h := one_test g h0
  by_cases hl : (((dg10 g).length : Int) == 1) = true
  · rw [if_pos hl] at h ⊢
    obtain ⟨v, e, h⟩ := bind_some h
    rw [e, Option.bind_some]
    by_cases hv : (v == 1) = true
    · rw [if_pos hv] at h ⊢
      injection h with h
      rw [if_pos (of_decide_eq_true h.symm)]
    · rw [if_neg hv] at h ⊢
      injection h with h
      rw [if_neg (of_decide_eq_false h.symm)]
  · rw [if_neg hl] at h ⊢
    injection h with h
    rw [if_neg (of_decide_eq_false h.symm)]
theorem QOf_pos (z : Int) (d : Nat) (hd : d ≠ 0) (hz : sm z.natAbs) (hs : sm d) : m_r_QOf (decide (z < 0)) (dg10 z.natAbs) false (dg10 d) = some (rr (mkRat z d)) := by
  obtain ⟨e1, e2⟩ := quot_parts z d hd
  have hg0 : Nat.gcd z.natAbs d ≠ 0 := fun h => hd (Nat.eq_zero_of_gcd_eq_zero_right h)
  have hgd : Nat.gcd z.natAbs d ∣ d := Nat.gcd_dvd_right _ _
  have hgs : sm (Nat.gcd z.natAbs d) := sm_le (Nat.le_of_dvd (Nat.pos_of_ne_zero hd) hgd) hs
  have hsg := sg_div z _ (Nat.gcd_dvd_left z.natAbs d)
  unfold m_r_QOf
  rw [if_neg (by decide), Option.bind_some]
  dsimp only
  rw [ZGcd_is _ _ _ _ hz hs, Option.bind_some]
  dsimp only
  rw [one_sel _ hg0, Option.bind_some]
  unfold rr zz
  rw [e1, e2]
  generalize Nat.gcd z.natAbs d = g at *
  by_cases h1 : g = 1
  · rw [if_pos h1]
    dsimp only
    subst h1
    rw [Int.natCast_one, Int.ediv_one, Nat.div_one]
  · rw [if_neg h1]
    dsimp only
    rw [over_is _ _ hg0 hz hgs, Option.bind_some, over_is _ _ hg0 hs hgs]
    simp only [Option.bind_some]
    rw [signed_is, hsg]
    simp only [Option.bind_some]
    rw [signed_is, sg_abs]
    have : decide (sg false (d / g) < 0) = false := by unfold sg; rw [if_neg (by decide)]; exact nat_lt0 _
    rw [this]; rfl
theorem QOf_is (z w : Int) (hw : w ≠ 0) (hz : sm z.natAbs) (hs : sm w.natAbs) : m_r_QOf (decide (z < 0)) (dg10 z.natAbs) (decide (w < 0)) (dg10 w.natAbs) = some (rr (Rat.divInt z w)) := by
  by_cases h : w < 0
  · have e : m_r_QOf (decide (z < 0)) (dg10 z.natAbs) (decide (w < 0)) (dg10 w.natAbs) = m_r_QOf (decide (-z < 0)) (dg10 (-z).natAbs) (decide (-w < 0)) (dg10 (-w).natAbs) := by
      unfold m_r_QOf
      rw [if_pos (decide_eq_true h), if_neg (by simp; omega), ZNeg_is, ZNeg_is]
      rfl
    obtain ⟨d, hd⟩ : ∃ d : Nat, -w = (d : Int) := ⟨(-w).toNat, by omega⟩
    have h1 := QOf_pos (-z) d (by omega) (by rw [Int.natAbs_neg]; exact hz) (by rw [← Int.natAbs_neg, hd, Int.natAbs_natCast] at hs; exact hs)
    rw [e, hd, nat_lt0, Int.natAbs_natCast, h1, ← Rat.divInt_ofNat, ← hd, Rat.neg_divInt_neg]
  · obtain ⟨d, rfl⟩ := Int.eq_ofNat_of_zero_le (show 0 ≤ w by omega)
    rw [nat_lt0, Int.natAbs_natCast, QOf_pos z d (by omega) hz hs, ← Rat.divInt_ofNat]
theorem r_Of_is (n d : Int) (h : i64r n) (k : i64r d) (h0 : d ≠ 0) : m_r_Of n d = some (rr ((n : Rat) / (d : Rat))) := by
  unfold m_r_Of
  rw [ZInt_is n h, Option.bind_some]
  dsimp only
  rw [ZInt_is d k, Option.bind_some]
  dsimp only
  rw [QOf_is n d h0 (i64_sm h) (i64_sm k), Rat.divInt_eq_div]; rfl
theorem mul_den (a b : Rat) (z : Int) (hz : sm z.natAbs) (hd : sm b.den) : m_r_ZMul (decide (z < 0)) (dg10 z.natAbs) false (dg10 b.den) = some (zz (z * b.den)) := by
  have := ZMul_is z (b.den : Int) hz (by rw [Int.natAbs_natCast]; exact hd)
  rw [nat_lt0, Int.natAbs_natCast] at this
  exact this
theorem den_den (a b : Rat) (ha : sm a.den) (hb : sm b.den) : m_r_ZMul false (dg10 a.den) false (dg10 b.den) = some (false, dg10 (a.den * b.den)) := by
  have := ZMul_is (a.den : Int) (b.den : Int) (by rw [Int.natAbs_natCast]; exact ha) (by rw [Int.natAbs_natCast]; exact hb)
  rw [nat_lt0, nat_lt0, Int.natAbs_natCast, Int.natAbs_natCast, ← Int.natCast_mul, nat_lt0, Int.natAbs_natCast] at this
  exact this
section
variable {l m : List Int}
theorem r_Add_is (a b : Rat) (h : qw a) (k : qw b) (hl : denL a.den l) (hm : denL b.den m) : m_r_Add (decide (a.num < 0)) (dg10 a.num.natAbs) false l (decide (b.num < 0)) (dg10 b.num.natAbs) false m = some (rr (a + b)) := by
  unfold m_r_Add
  rw [r_Q_den_is a _ _ hl, r_Q_den_is b _ _ hm]
  simp only [Option.bind_some]
  rw [mul_den a b _ (qs_smn h) (qs_smd k)]
  simp only [Option.bind_some]
  rw [mul_den b a _ (qs_smn k) (qs_smd h)]
  simp only [Option.bind_some]
  rw [ZAdd_is _ _ (sm_of (nd_bd h k) (by omega)) (sm_of (nd_bd k h) (by omega))]
  simp only [Option.bind_some]
  rw [den_den a b (qs_smd h) (qs_smd k)]
  simp only [Option.bind_some]
  rw [QOf_pos _ _ (Nat.mul_ne_zero a.den_nz b.den_nz) (sm_of (blen_natAbs_add (nd_bd h k) (nd_bd k h)) (by omega)) (sm_of (dd_bd h k) (by omega)), ← Rat.add_def']
  rfl
theorem r_Mul_is (a b : Rat) (h : qw a) (k : qw b) (hl : denL a.den l) (hm : denL b.den m) : m_r_Mul (decide (a.num < 0)) (dg10 a.num.natAbs) false l (decide (b.num < 0)) (dg10 b.num.natAbs) false m = some (rr (a * b)) := by
  unfold m_r_Mul
  rw [ZMul_is _ _ (qs_smn h) (qs_smn k), r_Q_den_is a _ _ hl, r_Q_den_is b _ _ hm]
  simp only [Option.bind_some]
  rw [den_den a b (qs_smd h) (qs_smd k)]
  simp only [Option.bind_some]
  rw [QOf_pos _ _ (Nat.mul_ne_zero a.den_nz b.den_nz) (sm_of (nn_bd h k) (by omega)) (sm_of (dd_bd h k) (by omega)), ← Rat.mul_def']
  rfl
end
end Go.Am
namespace Go.Am
open Go.RowKit
section
variable {l m : List Int}
theorem dR_len1 {d : Nat} (h : (dR d).length = 1) : d < 10 ∧ d ≠ 0 := by
  have h0 : d ≠ 0 := by intro e; subst e; rw [dR_zero] at h; simp at h
  rw [dR_pos h0, List.length_cons] at h
  have h1 : (dR (d / 10)).length = 0 := by omega
  refine ⟨?_, h0⟩
  apply Nat.lt_of_not_le
  intro hc
  have : d / 10 ≠ 0 := by omega
  rw [dR_pos this] at h1; simp at h1
theorem decL_one {d : Nat} (h : d ≠ 0) : (decL d == ([49] : List UInt8)) = decide (d = 1) := by
  by_cases h1 : d = 1
  · subst h1
    have : decL 1 = [49] := by unfold decL; rw [if_neg (by decide), dR_pos (by decide), show (1 : Nat) / 10 = 0 from rfl, dR_zero]; rfl
    rw [this]; rfl
  · rw [decide_eq_false h1, beq_eq_false_iff_ne]
    intro he
    have hl : (dR d).length = 1 := by
      have := congrArg List.length he
      unfold decL bytesOf at this
      rw [if_neg h, List.length_map, List.length_reverse] at this
      exact this
    obtain ⟨h2, _⟩ := dR_len1 hl
    unfold decL at he
    rw [if_neg h, dR_pos h, Nat.div_eq_of_lt h2, dR_zero] at he
    simp only [List.reverse_cons, List.reverse_nil, List.nil_append, bytesOf, List.map_cons, List.map_nil, Int.toNat_natCast] at he
    injection he with he _
    have h3 := congrArg UInt8.toNat he
    rw [UInt8.toNat_ofNat', show (49 : UInt8).toNat = 49 from rfl] at h3
    omega
theorem r_Text_is (a : Rat) (h : qs' a) (hl : denL a.den l) : m_r_Text (decide (a.num < 0)) (dg10 a.num.natAbs) false l = some (txt a) := by
  have h1 : (decL a.num.natAbs).length ≤ 400000000001 := decL_len (sz_le.1 h).1
  have h2 : (decL a.den).length ≤ 400000000001 := decL_len (sz_le.1 h).2
  unfold m_r_Text txt
  rw [ZText_is _ _ (qs_smn (qs_w h)) (fun h0 => decide_eq_false (by omega)), Option.bind_some, r_Q_den_is a _ _ hl, Option.bind_some]
  dsimp only
  rw [ZText_is _ _ (qs_smd (qs_w h)) (fun h0 => rfl), Option.bind_some]
  have e0 : (if (false : Bool) = true then ([45] : List UInt8) else []) ++ decL a.den = decL a.den := by simp
  rw [e0, decL_one a.den_nz]
  have e1 : (if decide (a.num < 0) = true then ([45] : List UInt8) else []) = (if a.num < 0 then [45] else []) := by simp
  rw [e1]
  have h3 : ((if a.num < 0 then [45] else []) ++ decL a.num.natAbs : List UInt8).length ≤ 400000000002 := by
    rw [List.length_append]; split <;> simp only [List.length_cons, List.length_nil] <;> omega
  generalize ((if a.num < 0 then [45] else []) ++ decL a.num.natAbs : List UInt8) = t at *
  by_cases hd : a.den = 1
  · rw [if_pos (decide_eq_true hd), if_pos hd, List.append_nil]
  · rw [if_neg (by simpa using hd), if_neg hd]
    refine must_of (by simp only [List.length_cons, List.length_nil]; omega) (must_of (by simp only [List.length_append, List.length_cons, List.length_nil]; omega) ?_)
    rw [List.append_assoc]; rfl
end
end Go.Am
namespace Go.Am
open Go.RowKit
section
variable {l m : List Int}
end
end Go.Am
namespace Go.Am
open Go.RowKit
def rabs (x : Rat) : Rat := if x < 0 then -x else x
def closer (a c b : Rat) : Bool := decide (cmpq (rabs (c - a)) (rabs (b - a)) < 0) || (cmpq (rabs (c - a)) (rabs (b - a)) == 0 && (decide (cmpn c.den b.den < 0) || (cmpn c.den b.den == 0 && decide (cmpq c b < 0))))
def nearS (a : Rat) (n j : Nat) (b : Rat) : Rat := if closer a (mkRat ((a * (n : Int)).floor + (j : Int)) n) b then mkRat ((a * (n : Int)).floor + (j : Int)) n else b
def nearR (a : Rat) : Nat → Rat
  | 0 => (a.floor : Rat)
  | n + 1 => nearS a (n + 1) 1 (nearS a (n + 1) 0 (nearR a n))
theorem sz_mk (z : Int) (d n : Nat) (hd : d ≠ 0) (h1 : blen z.natAbs ≤ n) (h2 : blen d ≤ n) : sz (mkRat z d) ≤ n :=
  sz_le.2 ⟨Nat.le_trans (blen_mono (mk_num_le _ _)) h1, Nat.le_trans (blen_mono (mk_den_le _ _ hd)) h2⟩
theorem sz_rabs (a : Rat) : sz (rabs a) = sz a := by unfold rabs; exact sz_abs a
section
open D
def r_of (n d : Int) : Option Rat := must (i64r n ∧ i64r d ∧ d ≠ 0) (some ((n : Rat) / (d : Rat)))
theorem R_of {a1 : Int} {a2 : Int} {r3 : Rat} (h : r_of a1 a2 = some r3) : CtrG PP 37 [] [D.int .i64 a1, D.int .i64 a2] [] (rqD r3) := by
  obtain ⟨h0, h⟩ := must_some h
  injection h with h; subst h
  exact (C_r_Of (r_Of_is a1 a2 h0.1 h0.2.1 h0.2.2)).outR (rq_close _)
theorem R_add {a1 : Rat} {a2 : Rat} {r3 : Rat} (h : q_add a1 a2 = some r3) : CtrG PP 43 [] [rqD a1, rqD a2] [] (rqD r3) := by
  obtain ⟨h0, h⟩ := must_some h
  injection h with h; subst h
  exact .rq2 fun l m hl hm => (C_r_Add (r_Add_is a1 a2 (qs_w h0.1) (qs_w h0.2) hl hm)).outR (rq_close _)
theorem R_mul {a1 : Rat} {a2 : Rat} {r3 : Rat} (h : q_mul a1 a2 = some r3) : CtrG PP 47 [] [rqD a1, rqD a2] [] (rqD r3) := by
  obtain ⟨h0, h⟩ := must_some h
  injection h with h; subst h
  exact .rq2 fun l m hl hm => (C_r_Mul (r_Mul_is a1 a2 (qs_w h0.1) (qs_w h0.2) hl hm)).outR (rq_close _)
theorem R_text {a1 : Rat} {r2 : List UInt8} (h : q_text a1 = some r2) : CtrG PP 162 [] [rqD a1] [] (strD r2) := by
  obtain ⟨h0, h⟩ := must_some h
  injection h with h; subst h
  exact .rq1 fun l hl => C_r_Text (r_Text_is a1 h0 hl)
end
end Go.Am
namespace Go.Am
open Go.RowKit
set_option maxRecDepth 100000
noncomputable section
end
end Go.Am
namespace Go.Am
open Go.RowKit
section
variable {l m : List Int}
end
end Go.Am
namespace Go.Proofs
open Go.Shelf
def Tryz.lays160_ren : Go.Shelf.Ren := ⟨fun | 160 => 213 | 232 => 241 | 231 => 240 | 227 => 242 | 234 => 244 | 233 => 243 | 236 => 246 | 235 => 245 | 228 => 258 | 271 => 261 | 151 => 260 | 197 => 259 | 120 => 266 | 152 => 265 | 260 => 264 | 137 => 267 | 119 => 268 | 224 => 256 | 225 => 255 | 217 => 254 | 266 => 262 | n => n, fun | 9 => 9 | 4 => 4 | 3 => 3 | 5 => 5 | 117 => 271 | 116 => 270 | 0 => 0 | 124 => 274 | 21 => 21 | 105 => 283 | 46 => 246 | 119 => 288 | 139 => 291 | 138 => 290 | n => n, fun | 3 => 1 | 4 => 2 | n => n⟩
theorem Tryz.lays160 : Go.Proofs.Lays.n160 Tryz.prog Tryz.lays160_ren := {
  mixed := by kernel_rfl
  f119 := Tryz.func268.trans (congrArg some (by kernel_rfl))
  f120 := Tryz.func266.trans (congrArg some (by kernel_rfl))
  f137 := Tryz.func267.trans (congrArg some (by kernel_rfl))
  f151 := Tryz.func260.trans (congrArg some (by kernel_rfl))
  f152 := Tryz.func265.trans (congrArg some (by kernel_rfl))
  f160 := Tryz.func213.trans (congrArg some (by kernel_rfl))
  f197 := Tryz.func259.trans (congrArg some (by kernel_rfl))
  f217 := Tryz.func254.trans (congrArg some (by kernel_rfl))
  f224 := Tryz.func256.trans (congrArg some (by kernel_rfl))
  f225 := Tryz.func255.trans (congrArg some (by kernel_rfl))
  f227 := Tryz.func242.trans (congrArg some (by kernel_rfl))
  f228 := Tryz.func258.trans (congrArg some (by kernel_rfl))
  f231 := Tryz.func240.trans (congrArg some (by kernel_rfl))
  f232 := Tryz.func241.trans (congrArg some (by kernel_rfl))
  f233 := Tryz.func243.trans (congrArg some (by kernel_rfl))
  f234 := Tryz.func244.trans (congrArg some (by kernel_rfl))
  f235 := Tryz.func245.trans (congrArg some (by kernel_rfl))
  f236 := Tryz.func246.trans (congrArg some (by kernel_rfl))
  f260 := Tryz.func264.trans (congrArg some (by kernel_rfl))
  f266 := Tryz.func262.trans (congrArg some (by kernel_rfl))
  f271 := Tryz.func261.trans (congrArg some (by kernel_rfl))
  t0 := Tryz.underlying0
  a0 := Tryz.isAgg0
  z0 := Tryz.sizeOf0
  v0 := Tryz.zeroValue0
  t3 := Tryz.underlying3
  a3 := Tryz.isAgg3
  z3 := Tryz.sizeOf3
  v3 := Tryz.zeroValue3
  t4 := Tryz.underlying4
  a4 := Tryz.isAgg4
  z4 := Tryz.sizeOf4
  v4 := Tryz.zeroValue4
  t5 := Tryz.underlying5
  a5 := Tryz.isAgg5
  z5 := Tryz.sizeOf5
  v5 := Tryz.zeroValue5
  t9 := Tryz.underlying9
  a9 := Tryz.isAgg9
  z9 := Tryz.sizeOf9
  v9 := Tryz.zeroValue9
  t21 := Tryz.underlying21
  a21 := Tryz.isAgg21
  z21 := Tryz.sizeOf21
  v21 := Tryz.zeroValue21
  t46 := Tryz.underlying246
  a46 := Tryz.isAgg246
  z46 := Tryz.sizeOf246
  v46 := Tryz.zeroValue246
  t105 := Tryz.underlying283
  a105 := Tryz.isAgg283
  z105 := Tryz.sizeOf283
  v105 := Tryz.zeroValue283
  t116 := Tryz.underlying270
  a116 := Tryz.isAgg270
  z116 := Tryz.sizeOf270
  t117 := Tryz.underlying271
  a117 := Tryz.isAgg271
  z117 := Tryz.sizeOf271
  v117 := Tryz.zeroValue271
  t119 := Tryz.underlying288
  a119 := Tryz.isAgg288
  z119 := Tryz.sizeOf288
  t124 := Tryz.underlying274
  a124 := Tryz.isAgg274
  z124 := Tryz.sizeOf274
  v124 := Tryz.zeroValue274
  t138 := Tryz.underlying290
  a138 := Tryz.isAgg290
  z138 := Tryz.sizeOf290
  v138 := Tryz.zeroValue290
  t139 := Tryz.underlying291
  a139 := Tryz.isAgg291
  z139 := Tryz.sizeOf291
  v139 := Tryz.zeroValue291
  g3 := by kernel_rfl
  g4 := by kernel_rfl }
def Tryz.lays219_ren : Go.Shelf.Ren := ⟨fun | 219 => 239 | 217 => 254 | 225 => 255 | 224 => 256 | 267 => 257 | 266 => 262 | 314 => 263 | n => n, fun | 9 => 9 | 3 => 3 | 4 => 4 | 5 => 5 | 46 => 246 | 146 => 275 | 51 => 230 | n => n, fun | 1 => 0 | n => n⟩
theorem Tryz.lays219 : Go.Proofs.Lays.n219 Tryz.prog Tryz.lays219_ren := {
  mixed := by kernel_rfl
  f217 := Tryz.func254.trans (congrArg some (by kernel_rfl))
  f219 := Tryz.func239.trans (congrArg some (by kernel_rfl))
  f224 := Tryz.func256.trans (congrArg some (by kernel_rfl))
  f225 := Tryz.func255.trans (congrArg some (by kernel_rfl))
  f266 := Tryz.func262.trans (congrArg some (by kernel_rfl))
  f267 := Tryz.func257.trans (congrArg some (by kernel_rfl))
  f314 := Tryz.func263.trans (congrArg some (by kernel_rfl))
  t3 := Tryz.underlying3
  a3 := Tryz.isAgg3
  z3 := Tryz.sizeOf3
  v3 := Tryz.zeroValue3
  t4 := Tryz.underlying4
  a4 := Tryz.isAgg4
  z4 := Tryz.sizeOf4
  v4 := Tryz.zeroValue4
  t5 := Tryz.underlying5
  a5 := Tryz.isAgg5
  z5 := Tryz.sizeOf5
  v5 := Tryz.zeroValue5
  t9 := Tryz.underlying9
  a9 := Tryz.isAgg9
  z9 := Tryz.sizeOf9
  v9 := Tryz.zeroValue9
  t46 := Tryz.underlying246
  a46 := Tryz.isAgg246
  z46 := Tryz.sizeOf246
  v46 := Tryz.zeroValue246
  t51 := Tryz.underlying230
  a51 := Tryz.isAgg230
  z51 := Tryz.sizeOf230
  v51 := Tryz.zeroValue230
  t146 := Tryz.underlying275
  a146 := Tryz.isAgg275
  z146 := Tryz.sizeOf275
  v146 := Tryz.zeroValue275
  g1 := by kernel_rfl }
open Go.RowKit Go.Lib in
theorem Tryz.stringslite_Index_one (s : ByteArray) (c : UInt8) (w : World) :
    Calls Tryz.prog 239 #[.string s, .string ⟨#[c]⟩] w fun e w' => e = .returned (.int .i64 (Lib.indexByte s.data.toList c)) ∧ w' = w := Any.stringslite_Index_one Tryz.lays219 s c w
end Go.Proofs
namespace Go.Am
open Go.RowKit
theorem Ctr.ofCalls {P : Program} {f : FuncId} {ss : List (List UInt8)} {d : D} (hok : fnOk P f = true) (hnm : d.nm = []) (v : Value) (hv : ∀ ε w S, d.p ε w S v)
    (h : ∀ w, Calls P f (ss.map fun s => Value.string ⟨s.toArray⟩).toArray w (fun e w' => e = .returned v ∧ Below w.heap.size w w')) : Ctr P f (ss.map strD) d where
  ok := hok
  nms := by
    induction ss with
    | nil => rfl
    | cons s ss ih => exact nms_map (fun _ => rfl) (s :: ss)
  nm := hnm
  calls := by
    intro A w vs hvs
    have e : vs = ss.map fun s => Value.string ⟨s.toArray⟩ := by
      clear h
      induction ss generalizing vs with
      | nil => cases vs with | nil => rfl | cons _ _ => exact hvs.elim
      | cons s ss ih =>
        cases vs with
        | nil => exact hvs.elim
        | cons v vs => rw [List.map_cons, ih vs hvs.2, show v = _ from hvs.1]
    subst e
    exact (h w).mono (fun e w' ⟨h1, h2⟩ => ⟨v, h1, hv _ _ _, h2⟩)
def x_trim (s cut : List UInt8) : Option (List UInt8) := must (s.length ≤ 9223372036854775807 ∧ cut.length < 4294967281 ∧ ∀ b ∈ cut, b.toNat < 128) (some (Lib.trimS s cut))
theorem S_trim {s cut r : List UInt8} (h : x_trim s cut = some r) : CtrG PP 213 [] [strD s, strD cut] [] (strD r) := by
  obtain ⟨⟨h0, h1, h2⟩, h⟩ := must_some h
  injection h with h; subst h
  refine (Ctr.ofCalls (ss := [s, cut]) (by kernel_rfl) rfl (.string ⟨(Lib.trimS s cut).toArray⟩) (fun _ _ _ => rfl) (fun w => ?_)).gen
  exact Go.Proofs.Any.strings_Trim_ascii Go.Proofs.Tryz.lays160 (fun _ => by kernel_rfl) (by kernel_rfl) ⟨s.toArray⟩ ⟨cut.toArray⟩ w h0 h1 (fun j b hj => h2 b (List.mem_of_getElem? hj))
def x_index (s sep : List UInt8) : Option Int := must (sep.length = 1) (some (Lib.indexByte s (sep.getD 0 0)))
theorem S_index {s sep : List UInt8} {r : Int} (h : x_index s sep = some r) : CtrG PP 239 [] [strD s, strD sep] [] (D.int .i64 r) := by
  obtain ⟨h0, h⟩ := must_some h
  injection h with h; subst h
  match sep, h0 with
  | [c], _ =>
    refine (Ctr.ofCalls (ss := [s, [c]]) (by kernel_rfl) rfl (.int .i64 (Lib.indexByte s c)) (fun _ _ _ => rfl) (fun w => ?_)).gen
    exact (Go.Proofs.Tryz.stringslite_Index_one ⟨s.toArray⟩ c w).mono (fun e w' ⟨h1, h2⟩ => ⟨h1, h2 ▸ Below.refl _ _⟩)
end Go.Am
