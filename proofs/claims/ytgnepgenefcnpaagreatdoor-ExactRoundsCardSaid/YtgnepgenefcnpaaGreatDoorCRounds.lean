/- ExactRounds: the walk of the law, and its plain law: it returns true for every input. No condition. -/
import Derived.Test.YtgnepgenefcnpaaGreatDoorBaH
set_option linter.unusedVariables false
set_option linter.unusedSimpArgs false
namespace Go.Am
open Go.RowKit
set_option maxRecDepth 100000
noncomputable section
def m_l_ExactRounds_l1 (a4 : Int) (v7 : Rat) (v10 : Rat) (v71 : Rat) (v83 : Rat) (v96 : Rat) (v101 : Int) : Option (St Int (Ex Unit Bool)) := (if (decide (v101 < (([v83, v96, v10]).length : Int))) = true then ((ix ([v83, v96, v10]) v101).bind fun v109 => (q_den v109).bind fun v111 => (q_int a4).bind fun v113 => (q_cmp v111 v113).bind fun v115 => (if (decide (v115 ≤ 0)) = true then (q_sub v109 v7).bind fun v118 => (q_abs v118).bind fun v120 => (q_sub v71 v7).bind fun v122 => (q_abs v122).bind fun v124 => (q_cmp v120 v124).bind fun v126 => (if (decide (v126 < 0)) = true then some (Ex.ret false) else some (Ex.brk ())) else some (Ex.brk ()))).bind fun o107 => (match o107 with | Ex.brk () => some (St.next (IntKind.i64.wrap (v101 + 1))) | Ex.ret r129 => some (St.done (Ex.ret r129))) else some (St.done (Ex.brk ())))
def m_l_ExactRounds (a1 : Int) (a2 : Int) (a3 : Int) (a4 : Int) (a5 : Int) (a6 : Int) : Option Bool := (m_l_Both a1 a2 a3).bind fun (v7, v8) => (q_floor v7).bind fun v10 => (q_cmp v10 v7).bind fun v12 => (if (decide (v12 > 0)) = true then some false else (q_int 1).bind fun v15 => (q_add v10 v15).bind fun v17 => (q_cmp v17 v7).bind fun v19 => (if (decide (v19 ≤ 0)) = true then some false else (q_ceil v7).bind fun v22 => (q_neg v7).bind fun v24 => (q_floor v24).bind fun v26 => (q_neg v26).bind fun v28 => (m_l_same v22 v28).bind fun v30 => (if (!v30) = true then some false else (q_round v7).bind fun v33 => (q_sub v7 v33).bind fun v35 => (q_abs v35).bind fun v37 => (m_l_num ([49, 47, 50] : List UInt8)).bind fun v39 => (q_cmp v37 v39).bind fun v41 => (if (decide (v41 > 0)) = true then some false else (q_round v7).bind fun v44 => (q_den v44).bind fun v46 => (q_int 1).bind fun v48 => (q_cmp v46 v48).bind fun v50 => (if (v50 != 0) = true then some false else (q_den v7).bind fun v53 => (q_int64 v53).bind fun (v55, v56) => ((if v56 = true then (q_near v7 v55).bind fun (v61, v62) => (if (v62 != 0) = true then some (Ex.ret false) else (m_l_same v7 v61).bind fun v65 => (if (!v65) = true then some (Ex.ret false) else some (Ex.brk ()))) else some (Ex.brk ()))).bind fun o58 => (match o58 with | Ex.brk () => (if (decide (a4 < 1)) = true then (m_l_awake).bind fun v69 => some v69 else (q_near v7 a4).bind fun (v71, v72) => (if (v72 != 0) = true then some false else (q_den v71).bind fun v75 => (q_int a4).bind fun v77 => (q_cmp v75 v77).bind fun v79 => (if (decide (v79 > 0)) = true then some false else must (((IntKind.u64.wrap a4) : Int) ≠ 0) ((q_of a5 (IntKind.i64.wrap (1 + (IntKind.i64.wrap (Int.tmod (IntKind.u64.wrap a6) (IntKind.u64.wrap a4)))))).bind fun (v83, v84) => (q_int (IntKind.i64.wrap (1 + (IntKind.i64.wrap (Int.tmod (IntKind.u64.wrap a6) (IntKind.u64.wrap a4)))))).bind fun v86 => (q_mul v10 v86).bind fun v88 => (q_int (Int.tmod a5 8)).bind fun v90 => (q_add v88 v90).bind fun v92 => (q_int (IntKind.i64.wrap (1 + (IntKind.i64.wrap (Int.tmod (IntKind.u64.wrap a6) (IntKind.u64.wrap a4)))))).bind fun v94 => (q_div v92 v94).bind fun (v96, v97) => ((Loop (fun (s : Int) => m_l_ExactRounds_l1 a4 v7 v10 v71 v83 v96 s) 0).bind fun o102 => (match o102 with | Ex.brk () => some (Ex.brk ()) | Ex.ret r130 => some (Ex.ret r130))).bind fun o99 => (match o99 with | Ex.brk () => (m_l_awake).bind fun v131 => some v131 | Ex.ret r133 => some r133))))) | Ex.ret r134 => some r134))))))
theorem C_l_ExactRounds {a1 : Int} {a2 : Int} {a3 : Int} {a4 : Int} {a5 : Int} {a6 : Int} {r135 : Bool} (h : m_l_ExactRounds a1 a2 a3 a4 a5 a6 = some r135) : CtrG PP 12 [] [D.agg ([D.int .i64 a1, D.int .i64 a2, D.int .u8 a3]), D.int .i64 a4, D.int .i64 a5, D.int .i64 a6] [] (D.bool r135) := by
  unfold m_l_ExactRounds at h
  refine .of Go.Proofs.Tryz.func12 rfl (by kernel_rfl) rfl rfl rfl rfl rfl rfl (fun A w0 L b => ?_)
  show Ok PP _ [(0, D.agg ([D.int .i64 a1, D.int .i64 a2, D.int .u8 a3])), (1, D.int .i64 a4), (2, D.int .i64 a5), (3, D.int .i64 a6)] [] _ _
  refine .reg (.bxA rfl rfl <| .asg rfl <| .nil) rfl ?_
  obtain ⟨⟨v7, v8⟩, e9, h⟩ := bind_some h
  refine .reg (.ldE ([D.int .i64 a1, D.int .i64 a2, D.int .u8 a3]) rfl rfl ly_amblelaw01_Num rfl rfl <| .callG (C_l_Both e9) ⟨rfl, trivial⟩ trivial trivial <| .mv rfl <| .ext rfl rfl <| .ext rfl rfl <| .alL (qC (0)) z_exact_Q ⟨zq1, zq2, zq3, trivial⟩ rfl <| .alL (rqC (0)) z_ambleref01_Q ⟨zr1, zr2, .refl _, zr4, trivial⟩ rfl <| .stE (qC (v7)) rfl rfl rfl ly_exact_Q rfl rfl rfl <| .stE (rqC (v8)) rfl rfl rfl ly_ambleref01_Q rfl rfl rfl <| .nil) rfl ?_
  obtain ⟨v10, e11, h⟩ := bind_some h
  refine .reg (.ldE (qC (v7)) rfl rfl ly_exact_Q rfl rfl <| .callG (Q_floor e11) ⟨rfl, trivial⟩ trivial trivial <| .alL (qC (0)) z_exact_Q ⟨zq1, zq2, zq3, trivial⟩ rfl <| .stE (qC (v10)) rfl rfl rfl ly_exact_Q rfl rfl rfl <| .nil) rfl ?_
  refine .sq ?_
  obtain ⟨v12, e13, h⟩ := bind_some h
  by_cases c14 : (decide (v12 > 0)) = true
  · replace h := ite_pos_some c14 h
    refine .regD hmix (.ldE (qC (v10)) rfl rfl ly_exact_Q rfl rfl <| .ldE (qC (v7)) rfl rfl ly_exact_Q rfl rfl <| .callG (Q_cmp e13) ⟨rfl, rfl, trivial⟩ trivial trivial <| .cm rfl rfl rfl <| .mv rfl <| .gNf rfl rfl rfl c14 <| .gNf rfl rfl rfl c14 <| .gNf rfl rfl rfl c14 <| .gNf rfl rfl rfl c14 <| .gNf rfl rfl rfl c14 <| .gNf rfl rfl rfl c14 <| .pkTb rfl c14 rfl <| .mv rfl <| .gNf rfl rfl rfl rfl <| .gNf rfl rfl rfl rfl <| .gNf rfl rfl rfl rfl <| .gNf rfl rfl rfl rfl <| .gNf rfl rfl rfl rfl <| .gNf rfl rfl rfl rfl <| .gNf rfl rfl rfl rfl <| .gNf rfl rfl rfl rfl <| .pkTb rfl rfl rfl <| .mv rfl <| .gNf rfl rfl rfl rfl <| .gNf rfl rfl rfl rfl <| .gNf rfl rfl rfl rfl <| .gNf rfl rfl rfl rfl <| .gNf rfl rfl rfl rfl <| .gNf rfl rfl rfl rfl <| .gNf rfl rfl rfl rfl <| .gNf rfl rfl rfl rfl <| .pkTb rfl rfl rfl <| .mv rfl <| .gNf rfl rfl rfl rfl <| .gNf rfl rfl rfl rfl <| .gNf rfl rfl rfl rfl <| .gNf rfl rfl rfl rfl <| .gNf rfl rfl rfl rfl <| .gNf rfl rfl rfl rfl <| .pkTb rfl rfl rfl <| .nil) rfl (by kernel_rfl) ?_
    refine .cTb rfl rfl ?_
    refine .reg (.asg rfl <| .nil) rfl ?_
    cases h
    refine .retG (fun _ _ hb => hb) rfl (.cons (.tmp rfl) .nil) (.refl _) trivial trivial
  · replace h := ite_neg_some c14 h
    obtain ⟨v15, e16, h⟩ := bind_some h
    obtain ⟨v17, e18, h⟩ := bind_some h
    obtain ⟨v19, e20, h⟩ := bind_some h
    by_cases c21 : (decide (v19 ≤ 0)) = true
    · replace h := ite_pos_some c21 h
      refine .regD hmix (.ldE (qC (v10)) rfl rfl ly_exact_Q rfl rfl <| .ldE (qC (v7)) rfl rfl ly_exact_Q rfl rfl <| .callG (Q_cmp e13) ⟨rfl, rfl, trivial⟩ trivial trivial <| .cm rfl rfl rfl <| .mv rfl <| .gYf rfl rfl rfl c14 <| .ldE (qC (v10)) rfl rfl ly_exact_Q rfl rfl <| .gYf rfl rfl rfl c14 <| .callG (Q_int e16) ⟨rfl, trivial⟩ trivial trivial <| .gYf rfl rfl rfl c14 <| .callG (Q_add e18) ⟨rfl, rfl, trivial⟩ trivial trivial <| .gYf rfl rfl rfl c14 <| .ldE (qC (v7)) rfl rfl ly_exact_Q rfl rfl <| .gYf rfl rfl rfl c14 <| .callG (Q_cmp e20) ⟨rfl, rfl, trivial⟩ trivial trivial <| .gYf rfl rfl rfl c14 <| .cm rfl rfl rfl <| .pkFb rfl c14 rfl <| .mv rfl <| .gNf rfl rfl rfl c21 <| .gNf rfl rfl rfl c21 <| .gNf rfl rfl rfl c21 <| .gNf rfl rfl rfl c21 <| .gNf rfl rfl rfl c21 <| .gNf rfl rfl rfl c21 <| .gNf rfl rfl rfl c21 <| .gNf rfl rfl rfl c21 <| .pkTb rfl c21 rfl <| .mv rfl <| .gNf rfl rfl rfl rfl <| .gNf rfl rfl rfl rfl <| .gNf rfl rfl rfl rfl <| .gNf rfl rfl rfl rfl <| .gNf rfl rfl rfl rfl <| .gNf rfl rfl rfl rfl <| .gNf rfl rfl rfl rfl <| .gNf rfl rfl rfl rfl <| .pkTb rfl rfl rfl <| .mv rfl <| .gNf rfl rfl rfl rfl <| .gNf rfl rfl rfl rfl <| .gNf rfl rfl rfl rfl <| .gNf rfl rfl rfl rfl <| .gNf rfl rfl rfl rfl <| .gNf rfl rfl rfl rfl <| .pkTb rfl rfl rfl <| .nil) rfl (by kernel_rfl) ?_
      refine .cTb rfl rfl ?_
      refine .reg (.asg rfl <| .nil) rfl ?_
      cases h
      refine .retG (fun _ _ hb => hb) rfl (.cons (.tmp rfl) .nil) (.refl _) trivial trivial
    · replace h := ite_neg_some c21 h
      obtain ⟨v22, e23, h⟩ := bind_some h
      obtain ⟨v24, e25, h⟩ := bind_some h
      obtain ⟨v26, e27, h⟩ := bind_some h
      obtain ⟨v28, e29, h⟩ := bind_some h
      obtain ⟨v30, e31, h⟩ := bind_some h
      by_cases c32 : (!v30) = true
      · replace h := ite_pos_some c32 h
        refine .regD hmix (.ldE (qC (v10)) rfl rfl ly_exact_Q rfl rfl <| .ldE (qC (v7)) rfl rfl ly_exact_Q rfl rfl <| .callG (Q_cmp e13) ⟨rfl, rfl, trivial⟩ trivial trivial <| .cm rfl rfl rfl <| .mv rfl <| .gYf rfl rfl rfl c14 <| .ldE (qC (v10)) rfl rfl ly_exact_Q rfl rfl <| .gYf rfl rfl rfl c14 <| .callG (Q_int e16) ⟨rfl, trivial⟩ trivial trivial <| .gYf rfl rfl rfl c14 <| .callG (Q_add e18) ⟨rfl, rfl, trivial⟩ trivial trivial <| .gYf rfl rfl rfl c14 <| .ldE (qC (v7)) rfl rfl ly_exact_Q rfl rfl <| .gYf rfl rfl rfl c14 <| .callG (Q_cmp e20) ⟨rfl, rfl, trivial⟩ trivial trivial <| .gYf rfl rfl rfl c14 <| .cm rfl rfl rfl <| .pkFb rfl c14 rfl <| .mv rfl <| .gYf rfl rfl rfl c21 <| .ldE (qC (v7)) rfl rfl ly_exact_Q rfl rfl <| .gYf rfl rfl rfl c21 <| .callG (Q_ceil e23) ⟨rfl, trivial⟩ trivial trivial <| .gYf rfl rfl rfl c21 <| .ldE (qC (v7)) rfl rfl ly_exact_Q rfl rfl <| .gYf rfl rfl rfl c21 <| .callG (Q_neg e25) ⟨rfl, trivial⟩ trivial trivial <| .gYf rfl rfl rfl c21 <| .callG (Q_floor e27) ⟨rfl, trivial⟩ trivial trivial <| .gYf rfl rfl rfl c21 <| .callG (Q_neg e29) ⟨rfl, trivial⟩ trivial trivial <| .gYf rfl rfl rfl c21 <| .callG (C_l_same e31) ⟨rfl, rfl, trivial⟩ trivial trivial <| .gYf rfl rfl rfl c21 <| .not rfl <| .pkFb rfl c21 rfl <| .mv rfl <| .gNf rfl rfl rfl c32 <| .gNf rfl rfl rfl c32 <| .gNf rfl rfl rfl c32 <| .gNf rfl rfl rfl c32 <| .gNf rfl rfl rfl c32 <| .gNf rfl rfl rfl c32 <| .gNf rfl rfl rfl c32 <| .gNf rfl rfl rfl c32 <| .pkTb rfl c32 rfl <| .mv rfl <| .gNf rfl rfl rfl rfl <| .gNf rfl rfl rfl rfl <| .gNf rfl rfl rfl rfl <| .gNf rfl rfl rfl rfl <| .gNf rfl rfl rfl rfl <| .gNf rfl rfl rfl rfl <| .pkTb rfl rfl rfl <| .nil) rfl (by kernel_rfl) ?_
        refine .cTb rfl rfl ?_
        refine .reg (.asg rfl <| .nil) rfl ?_
        cases h
        refine .retG (fun _ _ hb => hb) rfl (.cons (.tmp rfl) .nil) (.refl _) trivial trivial
      · replace h := ite_neg_some c32 h
        obtain ⟨v33, e34, h⟩ := bind_some h
        obtain ⟨v35, e36, h⟩ := bind_some h
        obtain ⟨v37, e38, h⟩ := bind_some h
        obtain ⟨v39, e40, h⟩ := bind_some h
        obtain ⟨v41, e42, h⟩ := bind_some h
        by_cases c43 : (decide (v41 > 0)) = true
        · replace h := ite_pos_some c43 h
          refine .regD hmix (.ldE (qC (v10)) rfl rfl ly_exact_Q rfl rfl <| .ldE (qC (v7)) rfl rfl ly_exact_Q rfl rfl <| .callG (Q_cmp e13) ⟨rfl, rfl, trivial⟩ trivial trivial <| .cm rfl rfl rfl <| .mv rfl <| .gYf rfl rfl rfl c14 <| .ldE (qC (v10)) rfl rfl ly_exact_Q rfl rfl <| .gYf rfl rfl rfl c14 <| .callG (Q_int e16) ⟨rfl, trivial⟩ trivial trivial <| .gYf rfl rfl rfl c14 <| .callG (Q_add e18) ⟨rfl, rfl, trivial⟩ trivial trivial <| .gYf rfl rfl rfl c14 <| .ldE (qC (v7)) rfl rfl ly_exact_Q rfl rfl <| .gYf rfl rfl rfl c14 <| .callG (Q_cmp e20) ⟨rfl, rfl, trivial⟩ trivial trivial <| .gYf rfl rfl rfl c14 <| .cm rfl rfl rfl <| .pkFb rfl c14 rfl <| .mv rfl <| .gYf rfl rfl rfl c21 <| .ldE (qC (v7)) rfl rfl ly_exact_Q rfl rfl <| .gYf rfl rfl rfl c21 <| .callG (Q_ceil e23) ⟨rfl, trivial⟩ trivial trivial <| .gYf rfl rfl rfl c21 <| .ldE (qC (v7)) rfl rfl ly_exact_Q rfl rfl <| .gYf rfl rfl rfl c21 <| .callG (Q_neg e25) ⟨rfl, trivial⟩ trivial trivial <| .gYf rfl rfl rfl c21 <| .callG (Q_floor e27) ⟨rfl, trivial⟩ trivial trivial <| .gYf rfl rfl rfl c21 <| .callG (Q_neg e29) ⟨rfl, trivial⟩ trivial trivial <| .gYf rfl rfl rfl c21 <| .callG (C_l_same e31) ⟨rfl, rfl, trivial⟩ trivial trivial <| .gYf rfl rfl rfl c21 <| .not rfl <| .pkFb rfl c21 rfl <| .mv rfl <| .gYf rfl rfl rfl c32 <| .ldE (qC (v7)) rfl rfl ly_exact_Q rfl rfl <| .gYf rfl rfl rfl c32 <| .ldE (qC (v7)) rfl rfl ly_exact_Q rfl rfl <| .gYf rfl rfl rfl c32 <| .callG (Q_round e34) ⟨rfl, trivial⟩ trivial trivial <| .gYf rfl rfl rfl c32 <| .callG (Q_sub e36) ⟨rfl, rfl, trivial⟩ trivial trivial <| .gYf rfl rfl rfl c32 <| .callG (Q_abs e38) ⟨rfl, trivial⟩ trivial trivial <| .gYf rfl rfl rfl c32 <| .callG (C_l_num e40) ⟨rfl, trivial⟩ trivial trivial <| .gYf rfl rfl rfl c32 <| .callG (Q_cmp e42) ⟨rfl, rfl, trivial⟩ trivial trivial <| .gYf rfl rfl rfl c32 <| .cm rfl rfl rfl <| .pkFb rfl c32 rfl <| .mv rfl <| .gNf rfl rfl rfl c43 <| .gNf rfl rfl rfl c43 <| .gNf rfl rfl rfl c43 <| .gNf rfl rfl rfl c43 <| .gNf rfl rfl rfl c43 <| .gNf rfl rfl rfl c43 <| .pkTb rfl c43 rfl <| .nil) rfl (by kernel_rfl) ?_
          refine .cTb rfl rfl ?_
          refine .reg (.asg rfl <| .nil) rfl ?_
          cases h
          refine .retG (fun _ _ hb => hb) rfl (.cons (.tmp rfl) .nil) (.refl _) trivial trivial
        · replace h := ite_neg_some c43 h
          obtain ⟨v44, e45, h⟩ := bind_some h
          obtain ⟨v46, e47, h⟩ := bind_some h
          obtain ⟨v48, e49, h⟩ := bind_some h
          obtain ⟨v50, e51, h⟩ := bind_some h
          refine .regD hmix (.ldE (qC (v10)) rfl rfl ly_exact_Q rfl rfl <| .ldE (qC (v7)) rfl rfl ly_exact_Q rfl rfl <| .callG (Q_cmp e13) ⟨rfl, rfl, trivial⟩ trivial trivial <| .cm rfl rfl rfl <| .mv rfl <| .gYf rfl rfl rfl c14 <| .ldE (qC (v10)) rfl rfl ly_exact_Q rfl rfl <| .gYf rfl rfl rfl c14 <| .callG (Q_int e16) ⟨rfl, trivial⟩ trivial trivial <| .gYf rfl rfl rfl c14 <| .callG (Q_add e18) ⟨rfl, rfl, trivial⟩ trivial trivial <| .gYf rfl rfl rfl c14 <| .ldE (qC (v7)) rfl rfl ly_exact_Q rfl rfl <| .gYf rfl rfl rfl c14 <| .callG (Q_cmp e20) ⟨rfl, rfl, trivial⟩ trivial trivial <| .gYf rfl rfl rfl c14 <| .cm rfl rfl rfl <| .pkFb rfl c14 rfl <| .mv rfl <| .gYf rfl rfl rfl c21 <| .ldE (qC (v7)) rfl rfl ly_exact_Q rfl rfl <| .gYf rfl rfl rfl c21 <| .callG (Q_ceil e23) ⟨rfl, trivial⟩ trivial trivial <| .gYf rfl rfl rfl c21 <| .ldE (qC (v7)) rfl rfl ly_exact_Q rfl rfl <| .gYf rfl rfl rfl c21 <| .callG (Q_neg e25) ⟨rfl, trivial⟩ trivial trivial <| .gYf rfl rfl rfl c21 <| .callG (Q_floor e27) ⟨rfl, trivial⟩ trivial trivial <| .gYf rfl rfl rfl c21 <| .callG (Q_neg e29) ⟨rfl, trivial⟩ trivial trivial <| .gYf rfl rfl rfl c21 <| .callG (C_l_same e31) ⟨rfl, rfl, trivial⟩ trivial trivial <| .gYf rfl rfl rfl c21 <| .not rfl <| .pkFb rfl c21 rfl <| .mv rfl <| .gYf rfl rfl rfl c32 <| .ldE (qC (v7)) rfl rfl ly_exact_Q rfl rfl <| .gYf rfl rfl rfl c32 <| .ldE (qC (v7)) rfl rfl ly_exact_Q rfl rfl <| .gYf rfl rfl rfl c32 <| .callG (Q_round e34) ⟨rfl, trivial⟩ trivial trivial <| .gYf rfl rfl rfl c32 <| .callG (Q_sub e36) ⟨rfl, rfl, trivial⟩ trivial trivial <| .gYf rfl rfl rfl c32 <| .callG (Q_abs e38) ⟨rfl, trivial⟩ trivial trivial <| .gYf rfl rfl rfl c32 <| .callG (C_l_num e40) ⟨rfl, trivial⟩ trivial trivial <| .gYf rfl rfl rfl c32 <| .callG (Q_cmp e42) ⟨rfl, rfl, trivial⟩ trivial trivial <| .gYf rfl rfl rfl c32 <| .cm rfl rfl rfl <| .pkFb rfl c32 rfl <| .mv rfl <| .gYf rfl rfl rfl c43 <| .ldE (qC (v7)) rfl rfl ly_exact_Q rfl rfl <| .gYf rfl rfl rfl c43 <| .callG (Q_round e45) ⟨rfl, trivial⟩ trivial trivial <| .gYf rfl rfl rfl c43 <| .callG (Q_den e47) ⟨rfl, trivial⟩ trivial trivial <| .gYf rfl rfl rfl c43 <| .callG (Q_int e49) ⟨rfl, trivial⟩ trivial trivial <| .gYf rfl rfl rfl c43 <| .callG (Q_cmp e51) ⟨rfl, rfl, trivial⟩ trivial trivial <| .gYf rfl rfl rfl c43 <| .cm rfl rfl rfl <| .pkFb rfl c43 rfl <| .nil) rfl (by kernel_rfl) ?_
          by_cases c52 : (v50 != 0) = true
          · replace h := ite_pos_some c52 h
            refine .cTb rfl c52 ?_
            refine .reg (.asg rfl <| .nil) rfl ?_
            cases h
            refine .retG (fun _ _ hb => hb) rfl (.cons (.tmp rfl) .nil) (.refl _) trivial trivial
          · replace h := ite_neg_some c52 h
            refine .cFb rfl c52 ?_
            refine .skip (Ok.on ?_)
            obtain ⟨v53, e54, h⟩ := bind_some h
            obtain ⟨⟨v55, v56⟩, e57, h⟩ := bind_some h
            refine .reg (.ldE (qC (v7)) rfl rfl ly_exact_Q rfl rfl <| .callG (Q_den e54) ⟨rfl, trivial⟩ trivial trivial <| .callG (Q_int64 e57) ⟨rfl, trivial⟩ trivial trivial <| .mv rfl <| .ext rfl rfl <| .ext rfl rfl <| .asg rfl <| .asg rfl <| .nil) rfl ?_
            obtain ⟨o58, hp59, h⟩ := bind_some h
            refine .cutX (fun i => o58 = Ex.brk i) (fun (i : Unit) => [(1, D.int .i64 a4), (2, D.int .i64 a5), (3, D.int .i64 a6), (9, D.ref 9 0), (11, D.ref 11 0)]) (fun (i : Unit) => [(9, Hp.box 28 (qC (v7))), (11, Hp.box 28 (qC (v10)))]) ?_ ?_
            · have ho1 := h
              clear h
              have h := hp59
              clear hp59
              refine .reg (.mv rfl <| .nil) rfl ?_
              by_cases c60 : v56 = true
              · replace h := ite_pos_some c60 h
                refine .cTb rfl c60 ?_
                obtain ⟨⟨v61, v62⟩, e63, h⟩ := bind_some h
                refine .reg (.ldE (qC (v7)) rfl rfl ly_exact_Q rfl rfl <| .mv rfl <| .callG (Q_near e63) ⟨rfl, rfl, trivial⟩ trivial trivial <| .mv rfl <| .ext rfl rfl <| .ext rfl rfl <| .alL (qC (0)) z_exact_Q ⟨zq1, zq2, zq3, trivial⟩ rfl <| .stE (qC (v61)) rfl rfl rfl ly_exact_Q rfl rfl rfl <| .asg rfl <| .nil) rfl ?_
                by_cases c64 : (v62 != 0) = true
                · replace h := ite_pos_some c64 h
                  refine .reg (.mv rfl <| .cm rfl rfl rfl <| .mv rfl <| .gNf rfl rfl rfl c64 <| .gNf rfl rfl rfl c64 <| .gNf rfl rfl rfl c64 <| .gNf rfl rfl rfl c64 <| .pkTb rfl c64 rfl <| .nil) rfl ?_
                  refine .cTb rfl rfl ?_
                  refine .reg (.asg rfl <| .nil) rfl ?_
                  cases h
                  have h := ho1
                  clear ho1
                  cases h
                  refine .retG (fun _ _ hb => hb) rfl (.cons (.tmp rfl) .nil) (.refl _) trivial trivial
                · replace h := ite_neg_some c64 h
                  obtain ⟨v65, e66, h⟩ := bind_some h
                  refine .reg (.mv rfl <| .cm rfl rfl rfl <| .mv rfl <| .gYf rfl rfl rfl c64 <| .ldE (qC (v7)) rfl rfl ly_exact_Q rfl rfl <| .gYf rfl rfl rfl c64 <| .ldE (qC (v61)) rfl rfl ly_exact_Q rfl rfl <| .gYf rfl rfl rfl c64 <| .callG (C_l_same e66) ⟨rfl, rfl, trivial⟩ trivial trivial <| .gYf rfl rfl rfl c64 <| .not rfl <| .pkFb rfl c64 rfl <| .nil) rfl ?_
                  by_cases c67 : (!v65) = true
                  · replace h := ite_pos_some c67 h
                    refine .cTb rfl c67 ?_
                    refine .reg (.asg rfl <| .nil) rfl ?_
                    cases h
                    have h := ho1
                    clear ho1
                    cases h
                    refine .retG (fun _ _ hb => hb) rfl (.cons (.tmp rfl) .nil) (.refl _) trivial trivial
                  · replace h := ite_neg_some c67 h
                    refine .cFb rfl c67 ?_
                    refine .skip (fun _ _ hs => ⟨(), (Option.some.inj h).symm, hs.sub ⟨⟨_, rfl, .refl _⟩, ⟨_, rfl, .refl _⟩, ⟨_, rfl, .refl _⟩, ⟨_, rfl, .refl _⟩, ⟨_, rfl, .refl _⟩, trivial⟩ ⟨⟨_, rfl, .refl _⟩, ⟨_, rfl, .refl _⟩, trivial⟩ rfl rfl⟩)
              · replace h := ite_neg_some c60 h
                refine .cFb rfl c60 ?_
                refine .skip (fun _ _ hs => ⟨(), (Option.some.inj h).symm, hs.sub ⟨⟨_, rfl, .refl _⟩, ⟨_, rfl, .refl _⟩, ⟨_, rfl, .refl _⟩, ⟨_, rfl, .refl _⟩, ⟨_, rfl, .refl _⟩, trivial⟩ ⟨⟨_, rfl, .refl _⟩, ⟨_, rfl, .refl _⟩, trivial⟩ rfl rfl⟩)
            · rintro ⟨⟩ rfl
              show Ok PP _ [(1, D.int .i64 a4), (2, D.int .i64 a5), (3, D.int .i64 a6), (9, D.ref 9 0), (11, D.ref 11 0)] [(9, Hp.box 28 (qC (v7))), (11, Hp.box 28 (qC (v10)))] _ _
              refine .sq ?_
              refine .reg (.mv rfl <| .cm rfl rfl rfl <| .nil) rfl ?_
              by_cases c68 : (decide (a4 < 1)) = true
              · replace h := ite_pos_some c68 h
                refine .cTb rfl c68 ?_
                obtain ⟨v69, e70, h⟩ := bind_some h
                refine .reg (.callG (C_l_awake e70) trivial trivial trivial <| .asg rfl <| .nil) rfl ?_
                cases h
                refine .retG (fun _ _ hb => hb) rfl (.cons (.tmp rfl) .nil) (.refl _) trivial trivial
              · replace h := ite_neg_some c68 h
                refine .cFb rfl c68 ?_
                refine .skip (Ok.on ?_)
                obtain ⟨⟨v71, v72⟩, e73, h⟩ := bind_some h
                refine .reg (.ldE (qC (v7)) rfl rfl ly_exact_Q rfl rfl <| .mv rfl <| .callG (Q_near e73) ⟨rfl, rfl, trivial⟩ trivial trivial <| .mv rfl <| .ext rfl rfl <| .ext rfl rfl <| .alL (qC (0)) z_exact_Q ⟨zq1, zq2, zq3, trivial⟩ rfl <| .stE (qC (v71)) rfl rfl rfl ly_exact_Q rfl rfl rfl <| .asg rfl <| .nil) rfl ?_
                refine .sq ?_
                by_cases c74 : (v72 != 0) = true
                · replace h := ite_pos_some c74 h
                  refine .reg (.mv rfl <| .cm rfl rfl rfl <| .mv rfl <| .gNf rfl rfl rfl c74 <| .gNf rfl rfl rfl c74 <| .gNf rfl rfl rfl c74 <| .gNf rfl rfl rfl c74 <| .gNf rfl rfl rfl c74 <| .gNf rfl rfl rfl c74 <| .pkTb rfl c74 rfl <| .nil) rfl ?_
                  refine .cTb rfl rfl ?_
                  refine .reg (.asg rfl <| .nil) rfl ?_
                  cases h
                  refine .retG (fun _ _ hb => hb) rfl (.cons (.tmp rfl) .nil) (.refl _) trivial trivial
                · replace h := ite_neg_some c74 h
                  obtain ⟨v75, e76, h⟩ := bind_some h
                  obtain ⟨v77, e78, h⟩ := bind_some h
                  obtain ⟨v79, e80, h⟩ := bind_some h
                  refine .reg (.mv rfl <| .cm rfl rfl rfl <| .mv rfl <| .gYf rfl rfl rfl c74 <| .ldE (qC (v71)) rfl rfl ly_exact_Q rfl rfl <| .gYf rfl rfl rfl c74 <| .callG (Q_den e76) ⟨rfl, trivial⟩ trivial trivial <| .gYf rfl rfl rfl c74 <| .mv rfl <| .gYf rfl rfl rfl c74 <| .callG (Q_int e78) ⟨rfl, trivial⟩ trivial trivial <| .gYf rfl rfl rfl c74 <| .callG (Q_cmp e80) ⟨rfl, rfl, trivial⟩ trivial trivial <| .gYf rfl rfl rfl c74 <| .cm rfl rfl rfl <| .pkFb rfl c74 rfl <| .nil) rfl ?_
                  by_cases c81 : (decide (v79 > 0)) = true
                  · replace h := ite_pos_some c81 h
                    refine .cTb rfl c81 ?_
                    refine .reg (.asg rfl <| .nil) rfl ?_
                    cases h
                    refine .retG (fun _ _ hb => hb) rfl (.cons (.tmp rfl) .nil) (.refl _) trivial trivial
                  · replace h := ite_neg_some c81 h
                    refine .cFb rfl c81 ?_
                    refine .skip (Ok.on ?_)
                    obtain ⟨k82, h⟩ := must_some h
                    refine .reg (.mv rfl <| .cv rfl cv_int64_uint64 rfl <| .mv rfl <| .cv rfl cv_int64_uint64 rfl <| .ar rfl rfl (irem k82) <| .cv rfl cv_uint64_int64 rfl <| .ar rfl rfl rfl <| .asg rfl <| .nil) rfl ?_
                    obtain ⟨⟨v83, v84⟩, e85, h⟩ := bind_some h
                    refine .reg (.mv rfl <| .mv rfl <| .callG (Q_of e85) ⟨rfl, rfl, trivial⟩ trivial trivial <| .mv rfl <| .ext rfl rfl <| .ext rfl rfl <| .alL (qC (0)) z_exact_Q ⟨zq1, zq2, zq3, trivial⟩ rfl <| .stE (qC (v83)) rfl rfl rfl ly_exact_Q rfl rfl rfl <| .asg rfl <| .nil) rfl ?_
                    obtain ⟨v86, e87, h⟩ := bind_some h
                    obtain ⟨v88, e89, h⟩ := bind_some h
                    obtain ⟨v90, e91, h⟩ := bind_some h
                    obtain ⟨v92, e93, h⟩ := bind_some h
                    obtain ⟨v94, e95, h⟩ := bind_some h
                    obtain ⟨⟨v96, v97⟩, e98, h⟩ := bind_some h
                    refine .regD hmix (.ldE (qC (v10)) rfl rfl ly_exact_Q rfl rfl <| .mv rfl <| .callG (Q_int e87) ⟨rfl, trivial⟩ trivial trivial <| .callG (Q_mul e89) ⟨rfl, rfl, trivial⟩ trivial trivial <| .mv rfl <| .ar rfl rfl (irem (by decide)) <| .callG (Q_int e91) ⟨rfl, trivial⟩ trivial trivial <| .callG (Q_add e93) ⟨rfl, rfl, trivial⟩ trivial trivial <| .mv rfl <| .callG (Q_int e95) ⟨rfl, trivial⟩ trivial trivial <| .callG (Q_div e98) ⟨rfl, rfl, trivial⟩ trivial trivial <| .mv rfl <| .ext rfl rfl <| .ext rfl rfl <| .alL (qC (0)) z_exact_Q ⟨zq1, zq2, zq3, trivial⟩ rfl <| .stE (qC (v96)) rfl rfl rfl ly_exact_Q rfl rfl rfl <| .asg rfl <| .nil) rfl (by kernel_rfl) ?_
                    obtain ⟨o99, hp100, h⟩ := bind_some h
                    refine .cutX (fun i => o99 = Ex.brk i) (fun (i : Unit) => []) (fun (i : Unit) => []) ?_ ?_
                    · have ho1 := h
                      clear h
                      have h := hp100
                      clear hp100
                      refine .reg (.ldE (qC (v83)) rfl rfl ly_exact_Q rfl rfl <| .ldE (qC (v96)) rfl rfl ly_exact_Q rfl rfl <| .ldE (qC (v10)) rfl rfl ly_exact_Q rfl rfl <| .blQ (e := Enc.rat) [v83, v96, v10] [(0, _, qD v83, qC (v83)), (3, _, qD v96, qC (v96)), (6, _, qD v10, qC (v10))] mk_Lexact_Q rfl rfl rfl ⟨rfl, rfl, .agg _, rfl, rfl, rfl, .agg _, rfl, rfl, rfl, .agg _, rfl, trivial⟩ ⟨rfl, rfl, rfl, trivial⟩ rfl rfl <| .lnE rfl is_Lexact_Q <| .mv rfl <| .nil) rfl ?_
                      obtain ⟨o102, hl103, h⟩ := bind_some h
                      have ho2 := h
                      clear h
                      refine .block (.loopL (fun (s : Int) => [(1, D.int .i64 a4), (9, D.ref 9 0), (16, D.ref 16 0), (141, slcE Enc.rat ([v83, v96, v10])), (142, D.int .i64 (([v83, v96, v10]).length : Int)), (143, D.int .i64 s)]) (fun (s : Int) => [(9, Hp.box 28 (qC (v7))), (16, Hp.box 28 (qC (v71)))]) hl103 ⟨⟨_, rfl, .refl _⟩, ⟨_, rfl, .refl _⟩, ⟨_, rfl, .refl _⟩, ⟨_, rfl, .refl _⟩, ⟨_, rfl, .refl _⟩, ⟨_, rfl, .refl _⟩, trivial⟩ ⟨⟨_, rfl, .refl _⟩, ⟨_, rfl, .refl _⟩, trivial⟩ rfl rfl ?_)
                      rintro v101 st104 hb105
                      have h : m_l_ExactRounds_l1 a4 v7 v10 v71 v83 v96 v101 = some st104 := hb105
                      clear hb105
                      unfold m_l_ExactRounds_l1 at h
                      show Ok PP _ [(1, D.int .i64 a4), (9, D.ref 9 0), (16, D.ref 16 0), (141, slcE Enc.rat ([v83, v96, v10])), (142, D.int .i64 (([v83, v96, v10]).length : Int)), (143, D.int .i64 v101)] [(9, Hp.box 28 (qC (v7))), (16, Hp.box 28 (qC (v71)))] _ _
                      refine .reg (.cm rfl rfl rfl <| .nil) rfl ?_
                      refine .sq ?_
                      by_cases c106 : (decide (v101 < (([v83, v96, v10]).length : Int))) = true
                      · replace h := ite_pos_some c106 h
                        refine .cTb rfl c106 ?_
                        refine .skip (Ok.on ?_)
                        obtain ⟨o107, hp108, h⟩ := bind_some h
                        refine .cutX (fun i => o107 = Ex.brk i) (fun (i : Unit) => [(1, D.int .i64 a4), (9, D.ref 9 0), (16, D.ref 16 0), (141, slcE Enc.rat ([v83, v96, v10])), (142, D.int .i64 (([v83, v96, v10]).length : Int)), (143, D.int .i64 v101)]) (fun (i : Unit) => [(9, Hp.box 28 (qC (v7))), (16, Hp.box 28 (qC (v71)))]) ?_ ?_
                        · have ho3 := h
                          clear h
                          have h := hp108
                          clear hp108
                          refine .block ?_
                          obtain ⟨v109, e110, h⟩ := bind_some h
                          refine .reg (.ixE rfl rfl se_Lexact_Q (ix_some e110).1 (ix_some e110).2 <| .lpE (l := qC (v109)) rfl ly_exact_Q rfl <| .alL (qC (0)) z_exact_Q ⟨zq1, zq2, zq3, trivial⟩ rfl <| .stE (qC (v109)) rfl rfl rfl ly_exact_Q rfl rfl rfl <| .nil) rfl ?_
                          obtain ⟨v111, e112, h⟩ := bind_some h
                          obtain ⟨v113, e114, h⟩ := bind_some h
                          obtain ⟨v115, e116, h⟩ := bind_some h
                          by_cases c117 : (decide (v115 ≤ 0)) = true
                          · replace h := ite_pos_some c117 h
                            obtain ⟨v118, e119, h⟩ := bind_some h
                            obtain ⟨v120, e121, h⟩ := bind_some h
                            obtain ⟨v122, e123, h⟩ := bind_some h
                            obtain ⟨v124, e125, h⟩ := bind_some h
                            obtain ⟨v126, e127, h⟩ := bind_some h
                            refine .regD hmix (.ldE (qC (v109)) rfl rfl ly_exact_Q rfl rfl <| .callG (Q_den e112) ⟨rfl, trivial⟩ trivial trivial <| .mv rfl <| .callG (Q_int e114) ⟨rfl, trivial⟩ trivial trivial <| .callG (Q_cmp e116) ⟨rfl, rfl, trivial⟩ trivial trivial <| .cm rfl rfl rfl <| .mv rfl <| .gYt rfl rfl rfl c117 <| .ldE (qC (v109)) rfl rfl ly_exact_Q rfl rfl <| .gYt rfl rfl rfl c117 <| .ldE (qC (v7)) rfl rfl ly_exact_Q rfl rfl <| .gYt rfl rfl rfl c117 <| .callG (Q_sub e119) ⟨rfl, rfl, trivial⟩ trivial trivial <| .gYt rfl rfl rfl c117 <| .callG (Q_abs e121) ⟨rfl, trivial⟩ trivial trivial <| .gYt rfl rfl rfl c117 <| .ldE (qC (v71)) rfl rfl ly_exact_Q rfl rfl <| .gYt rfl rfl rfl c117 <| .ldE (qC (v7)) rfl rfl ly_exact_Q rfl rfl <| .gYt rfl rfl rfl c117 <| .callG (Q_sub e123) ⟨rfl, rfl, trivial⟩ trivial trivial <| .gYt rfl rfl rfl c117 <| .callG (Q_abs e125) ⟨rfl, trivial⟩ trivial trivial <| .gYt rfl rfl rfl c117 <| .callG (Q_cmp e127) ⟨rfl, rfl, trivial⟩ trivial trivial <| .gYt rfl rfl rfl c117 <| .cm rfl rfl rfl <| .pkTb rfl c117 rfl <| .nil) rfl (by kernel_rfl) ?_
                            by_cases c128 : (decide (v126 < 0)) = true
                            · replace h := ite_pos_some c128 h
                              refine .cTb rfl c128 ?_
                              refine .reg (.asg rfl <| .nil) rfl ?_
                              cases h
                              have h := ho3
                              clear ho3
                              refine .retG (Hi := []) (Ho := []) (b := b) (fn := Go.Proofs.Tryz.f12) (d := D.bool false) (fun _ _ hb => by exact ⟨_, (Option.some.inj h).symm, fun e => by subst e; have h := ho2; cases h; have h := ho1; cases h; exact hb⟩) rfl (.cons (.tmp rfl) .nil) (.refl _) trivial trivial
                            · replace h := ite_neg_some c128 h
                              refine .cFb rfl c128 ?_
                              refine .skip (fun _ _ hs => ⟨(), (Option.some.inj h).symm, hs.sub ⟨⟨_, rfl, .refl _⟩, ⟨_, rfl, .refl _⟩, ⟨_, rfl, .refl _⟩, ⟨_, rfl, .refl _⟩, ⟨_, rfl, .refl _⟩, ⟨_, rfl, .refl _⟩, trivial⟩ ⟨⟨_, rfl, .refl _⟩, ⟨_, rfl, .refl _⟩, trivial⟩ rfl rfl⟩)
                          · replace h := ite_neg_some c117 h
                            refine .regD hmix (.ldE (qC (v109)) rfl rfl ly_exact_Q rfl rfl <| .callG (Q_den e112) ⟨rfl, trivial⟩ trivial trivial <| .mv rfl <| .callG (Q_int e114) ⟨rfl, trivial⟩ trivial trivial <| .callG (Q_cmp e116) ⟨rfl, rfl, trivial⟩ trivial trivial <| .cm rfl rfl rfl <| .mv rfl <| .gNt rfl rfl rfl c117 <| .gNt rfl rfl rfl c117 <| .gNt rfl rfl rfl c117 <| .gNt rfl rfl rfl c117 <| .gNt rfl rfl rfl c117 <| .gNt rfl rfl rfl c117 <| .gNt rfl rfl rfl c117 <| .gNt rfl rfl rfl c117 <| .gNt rfl rfl rfl c117 <| .gNt rfl rfl rfl c117 <| .pkFb rfl c117 rfl <| .nil) rfl (by kernel_rfl) ?_
                            refine .cFb rfl (by decide) ?_
                            refine .skip (fun _ _ hs => ⟨(), (Option.some.inj h).symm, hs.sub ⟨⟨_, rfl, .refl _⟩, ⟨_, rfl, .refl _⟩, ⟨_, rfl, .refl _⟩, ⟨_, rfl, .refl _⟩, ⟨_, rfl, .refl _⟩, ⟨_, rfl, .refl _⟩, trivial⟩ ⟨⟨_, rfl, .refl _⟩, ⟨_, rfl, .refl _⟩, trivial⟩ rfl rfl⟩)
                        · rintro ⟨⟩ rfl
                          show Ok PP _ [(1, D.int .i64 a4), (9, D.ref 9 0), (16, D.ref 16 0), (141, slcE Enc.rat ([v83, v96, v10])), (142, D.int .i64 (([v83, v96, v10]).length : Int)), (143, D.int .i64 v101)] [(9, Hp.box 28 (qC (v7))), (16, Hp.box 28 (qC (v71)))] _ _
                          refine .region (.ar rfl rfl rfl <| .mv rfl <| .nil) rfl (fun _ _ hs => ⟨(IntKind.i64.wrap (v101 + 1)), (Option.some.inj h).symm, hs.sub ⟨⟨_, rfl, .refl _⟩, ⟨_, rfl, .refl _⟩, ⟨_, rfl, .refl _⟩, ⟨_, rfl, .refl _⟩, ⟨_, rfl, .refl _⟩, ⟨_, rfl, .refl _⟩, trivial⟩ ⟨⟨_, rfl, .refl _⟩, ⟨_, rfl, .refl _⟩, trivial⟩ rfl rfl⟩)
                      · replace h := ite_neg_some c106 h
                        refine .cFb rfl c106 ?_
                        refine .exit (fun a w hs => ⟨_, (Option.some.inj h).symm, fun e => by subst e; have h := ho2; exact blk_exit (⟨(), (Option.some.inj h).symm, hs.sub trivial trivial rfl rfl⟩)⟩)
                    · rintro ⟨⟩ rfl
                      show Ok PP _ [] [] _ _
                      obtain ⟨v131, e132, h⟩ := bind_some h
                      refine .reg (.callG (C_l_awake e132) trivial trivial trivial <| .asg rfl <| .nil) rfl ?_
                      cases h
                      refine .retG (fun _ _ hb => hb) rfl (.cons (.tmp rfl) .nil) (.refl _) trivial trivial
end
end Go.Am
namespace Go.Am
theorem fl_le (x : Rat) : cmpq (x.floor : Rat) x ≤ 0 := by have := Rat.floor_le x; unfold cmpq; grind
theorem fl_lt (x : Rat) : cmpq ((x.floor : Rat) + 1) x = 1 := by
  have := Rat.lt_floor_add_one x
  rw [show ((x.floor + 1 : Int) : Rat) = (x.floor : Rat) + 1 by simp] at this
  unfold cmpq; grind
theorem rnd_near (x : Rat) : (if x - (rnd x : Rat) < 0 then -(x - (rnd x : Rat)) else x - (rnd x : Rat)) ≤ 1 / 2 := by
  have h1 := Rat.floor_le (x + 1 / 2)
  have h2 := Rat.lt_floor_add_one (x + 1 / 2)
  rw [show (((x + 1 / 2).floor + 1 : Int) : Rat) = ((x + 1 / 2).floor : Rat) + 1 by simp] at h2
  unfold rnd
  by_cases h : ((x + 1 / 2).floor : Rat) - x = 1 / 2 ∧ (x + 1 / 2).floor % 2 = 1
  · rw [if_pos h]
    have h3 := h.1
    rw [show (((x + 1 / 2).floor - 1 : Int) : Rat) = ((x + 1 / 2).floor : Rat) - 1 by simp]
    split <;> grind
  · rw [if_neg h]
    split <;> grind
theorem half_num' : m_l_num ([49, 47, 50] : List UInt8) = some (1 / 2) := by decide +kernel
theorem step_r (a4 : Int) (x f b c g y : Rat) (i : Int) (hi : 0 ≤ i ∧ i < 3) (hy : ix [c, g, f] i = some y) (h4 : i64r a4) (hx : sz x ≤ 256) (hb : sz b ≤ 400) (hys : sz y ≤ 1000) (hbest : Best x a4.toNat b) (h1 : 1 ≤ a4) :
    m_l_ExactRounds_l1 a4 x f b c g i = some (.next (i + 1)) := by
  haveI : Bd x 256 := ⟨hx⟩
  haveI : Bd b 400 := ⟨hb⟩
  haveI : Bd y 1000 := ⟨hys⟩
  have qy : qs' y := Nat.le_trans hys (by omega)
  have b4 : Bd ((a4 : Int) : Rat) 65 := ⟨Nat.le_trans (sz_int a4) (Nat.succ_le_succ (blen_small (n := 64) (by unfold i64r at h4; omega)))⟩
  have eI : q_int a4 = some (a4 : Rat) := must_eq h4
  have ew : IntKind.i64.wrap (i + 1) = i + 1 := i64_in (by omega)
  unfold m_l_ExactRounds_l1
  rw [if_pos (decide_eq_true (by simp only [List.length_cons, List.length_nil]; omega)), hy]
  simp only [Option.bind_some, q_den_eq qy, eI, q_cmpB, q_subB, q_abs, Nat.reduceAdd, Nat.reduceLeDiff, ew]
  by_cases hc : cmpq ((y.den : Nat) : Rat) (a4 : Rat) ≤ 0
  · rw [if_pos (decide_eq_true hc)]
    have hd : (y.den : Int) ≤ a4 := by
      apply Int.le_of_not_gt
      intro h
      have : (a4 : Rat) < (((y.den : Nat) : Int) : Rat) := by exact_mod_cast h
      have e : ((y.den : Nat) : Rat) = (((y.den : Nat) : Int) : Rat) := rfl
      rw [e] at hc
      unfold cmpq at hc; grind
    have hnb := hbest.2 y (by omega)
    have : ¬ cmpq (if y - x < 0 then -(y - x) else y - x) (if b - x < 0 then -(b - x) else b - x) < 0 := by
      intro h
      apply hnb
      exact .inl (cmpq_lt.1 h)
    rw [if_neg (by simpa using this)]
    rfl
  · rw [if_neg (by simpa using hc)]
    rfl
theorem dd_is (a4 a6 : Int) (h4 : i64r a4) (h : 1 ≤ a4) : ∃ D, IntKind.i64.wrap (1 + IntKind.i64.wrap (Int.tmod (IntKind.u64.wrap a6) (IntKind.u64.wrap a4))) = D ∧ 1 ≤ D ∧ D ≤ a4 := by
  unfold i64r at h4
  have e : IntKind.u64.wrap a4 = a4 := by rw [IntKind.wrap_u64]; omega
  have e0 : 0 ≤ IntKind.u64.wrap a6 := by rw [IntKind.wrap_u64]; omega
  rw [e, Int.tmod_eq_emod_of_nonneg e0]
  generalize IntKind.u64.wrap a6 = z at *
  have h1 := Int.emod_nonneg z (show a4 ≠ 0 by omega)
  have h2 := Int.emod_lt_of_pos z (show 0 < a4 by omega)
  generalize z % a4 = r at *
  rw [i64_in (n := r) (by omega), i64_in (by omega)]
  exact ⟨1 + r, rfl, by omega, by omega⟩
theorem own_int (x : Rat) (s1 : sz x ≤ 256) : q_int64 ((x.den : Nat) : Rat) = some (if i64r (x.den : Int) then ((x.den : Int), true) else (0, false)) := by
  have sD := sz_den x
  have qD' : qs' ((x.den : Nat) : Rat) := by unfold qs'; omega
  have e : ((x.den : Nat) : Rat).den = 1 := Rat.den_natCast x.den
  have e2 : ((x.den : Nat) : Rat).num = (x.den : Int) := Rat.num_natCast x.den
  have : q_int64 ((x.den : Nat) : Rat) = some (if ((x.den : Nat) : Rat).den = 1 ∧ i64r ((x.den : Nat) : Rat).num then (((x.den : Nat) : Rat).num, true) else (0, false)) := must_eq qD'
  rw [this, e, e2]
  simp only [true_and]
theorem own_near (x : Rat) (s1 : sz x ≤ 256) (hi : i64r (x.den : Int)) : q_near x (x.den : Int) = some (x, 0) := by
  have h0 := x.den_nz
  have : q_near x (x.den : Int) = some (if (x.den : Int) < 1 then (0, 3) else (nearR x (x.den : Int).toNat, 0)) := must_eq ⟨Nat.le_trans s1 (by omega), hi⟩
  rw [this, if_neg (by omega), Int.toNat_natCast, Best_uniq (nearR_Best x x.den (by omega)) (den_best x (Nat.le_refl _))]
theorem bd_half : Bd (1 / 2) 2 := ⟨Nat.le_of_eq sz_half⟩
theorem cmp11 : cmpq 1 1 = 0 := by decide +kernel
theorem Rounds_true (a1 a2 a3 a4 a5 a6 : Int) (h1 : i64r a1) (h2 : i64r a2) (h3 : 0 ≤ a3 ∧ a3 ≤ 255) (h4 : i64r a4) (h5 : i64r a5) (h6 : i64r a6) : m_l_ExactRounds a1 a2 a3 a4 a5 a6 = some true := by
  obtain ⟨e1, s1⟩ := Both_is a1 a2 a3 h1 h2 h3
  unfold m_l_ExactRounds
  rw [e1]
  generalize bothX a1 a2 a3 = x at *
  haveI : Bd x 256 := ⟨s1⟩
  have q1 : qs' x := Nat.le_trans s1 (by omega)
  have c1 := fl_le x
  have c2 := fl_lt x
  have c3 : -((-x).floor : Rat) = (x.ceil : Rat) := by rw [Rat.ceil_eq_neg_floor_neg]; simp
  have c4 := rnd_near x
  have qn : qs' (-x) := by unfold qs'; rw [sz_neg']; omega
  have qr : qs' ((rnd x : Int) : Rat) := by have := rnd_sz x; unfold qs'; omega
  have hd1 : (((rnd x : Int) : Rat).den : Rat) = 1 := by rw [Rat.den_intCast]; simp
  have z1 := cmp11
  have hcA : decide (cmpq (x.floor : Rat) x > 0) = false := by simpa using c1
  have hcB : decide (cmpq ((x.floor : Rat) + 1) x ≤ 0) = false := by rw [c2]; rfl
  have hcC : decide (cmpq (if x - (rnd x : Rat) < 0 then -(x - (rnd x : Rat)) else x - (rnd x : Rat)) (1 / 2) > 0) = false := by
    rw [decide_eq_false_iff_not]
    unfold cmpq; grind
  haveI hbh : Bd (1 / 2) 2 := bd_half
  have eD : q_den x = some ((x.den : Nat) : Rat) := must_eq q1
  have eJ := own_int x s1
  have hnown := own_near x s1
  have g1 : q_cmp (x.floor : Rat) x = some (cmpq (x.floor : Rat) x) := q_cmpB (by decide) (by decide)
  have g2 : q_add (x.floor : Rat) 1 = some ((x.floor : Rat) + 1) := q_addB (by decide) (by decide)
  have g3 : q_cmp ((x.floor : Rat) + 1) x = some (cmpq ((x.floor : Rat) + 1) x) := q_cmpB (by decide) (by decide)
  have g4 : m_l_same (x.ceil : Rat) (x.ceil : Rat) = some true := same_B (by decide)
  have g5 : q_sub x (rnd x : Rat) = some (x - (rnd x : Rat)) := q_subB (by decide) (by decide)
  have g6 : q_cmp (if x - (rnd x : Rat) < 0 then -(x - (rnd x : Rat)) else x - (rnd x : Rat)) (1 / 2) = some (cmpq (if x - (rnd x : Rat) < 0 then -(x - (rnd x : Rat)) else x - (rnd x : Rat)) (1 / 2)) := q_cmpB (by decide) (by decide)
  have g7 : q_cmp 1 1 = some 0 := by decide +kernel
  rw [Option.bind_some]
  dsimp only
  rw [q_floor_eq q1, Option.bind_some, g1, Option.bind_some, hcA, if_neg (by decide), q_one, Option.bind_some, g2, Option.bind_some, g3, Option.bind_some, hcB, if_neg (by decide), q_ceil_eq q1, Option.bind_some]
  rw [show q_neg x = some (-x) from rfl, Option.bind_some, q_floor_eq qn, Option.bind_some, show q_neg ((-x).floor : Rat) = some (-((-x).floor : Rat)) from rfl, Option.bind_some, c3, g4, Option.bind_some, if_neg (by decide)]
  rw [q_round_eq q1, Option.bind_some, g5, Option.bind_some, show ∀ v, q_abs v = some (if v < 0 then -v else v) from fun _ => rfl, Option.bind_some, half_num', Option.bind_some, g6, Option.bind_some, hcC, if_neg (by decide)]
  rw [Option.bind_some, q_den_eq qr, hd1, Option.bind_some, Option.bind_some, g7, Option.bind_some, if_neg (by decide), eD, Option.bind_some, eJ, Option.bind_some]
  have first : (if (if i64r (x.den : Int) then ((x.den : Int), true) else (0, false)).2 = true then (q_near x (if i64r (x.den : Int) then ((x.den : Int), true) else (0, false)).1).bind fun p => (if (p.2 != 0) = true then some (Ex.ret false) else (m_l_same x p.1).bind fun v65 => (if (!v65) = true then some (Ex.ret false) else some (Ex.brk ()))) else some (Ex.brk ())) = some (Ex.brk () : Ex Unit Bool) := by
    by_cases hi : i64r (x.den : Int)
    · rw [if_pos hi]
      simp [hnown hi, same_B]
    · rw [if_neg hi]; rfl
  rw [first]
  simp only [Option.bind_some]
  rw [awake_true]
  by_cases c0 : a4 < 1
  · rw [if_pos (decide_eq_true c0)]; rfl
  rw [if_neg (by simpa using c0)]
  have eN : q_near x a4 = some (nearR x a4.toNat, 0) := by
    have : q_near x a4 = some (if a4 < 1 then (0, 3) else (nearR x a4.toNat, 0)) := must_eq ⟨Nat.le_trans s1 (by omega), h4⟩
    rw [this, if_neg (by omega)]
  have hbest := nearR_Best x a4.toNat (by omega)
  have hbs : sz (nearR x a4.toNat) ≤ 400 := Nat.le_trans (nearR_sz x a4.toNat (by unfold i64r at h4; omega)) (by omega)
  rw [eN]
  simp only [Option.bind_some]
  generalize nearR x a4.toNat = b at *
  haveI : Bd b 400 := ⟨hbs⟩
  have b4 : Bd ((a4 : Int) : Rat) 65 := ⟨Nat.le_trans (sz_int a4) (Nat.succ_le_succ (blen_small (n := 64) (by unfold i64r at h4; omega)))⟩
  have eI : q_int a4 = some (a4 : Rat) := must_eq h4
  have qb : qs' b := Nat.le_trans hbs (by omega)
  have hcb : decide (cmpq ((b.den : Nat) : Rat) (a4 : Rat) > 0) = false := by
    have : ((b.den : Nat) : Rat) ≤ (a4 : Rat) := by
      have h := hbest.1
      have : (b.den : Int) ≤ a4 := by omega
      have e : ((b.den : Nat) : Rat) = (((b.den : Nat) : Int) : Rat) := rfl
      rw [e]; exact_mod_cast this
    rw [decide_eq_false_iff_not]
    unfold cmpq; grind
  obtain ⟨D, hD, hD1, hD2⟩ := dd_is a4 a6 h4 (by omega)
  have hDr : i64r D := by unfold i64r at h4 ⊢; omega
  have hD0 : D ≠ 0 := by omega
  have eq1 : q_of a5 D = some ((a5 : Rat) / (D : Rat), 0) := by
    have : q_of a5 D = some (if D = 0 then (0, 9) else ((a5 : Rat) / (D : Rat), 0)) := must_eq ⟨h5, hDr⟩
    rw [this, if_neg hD0]
  have eq2 : q_int D = some (D : Rat) := must_eq hDr
  have hr8 : i64r (Int.tmod a5 8) := by
    unfold i64r at h5 ⊢
    have h := Int.tmod_lt_of_pos a5 (show (0 : Int) < 8 by omega)
    have h' := Int.lt_tmod_of_pos a5 (show (0 : Int) < 8 by omega)
    omega
  have eq3 : q_int (Int.tmod a5 8) = some ((Int.tmod a5 8 : Int) : Rat) := must_eq hr8
  have bD : Bd ((D : Int) : Rat) 65 := ⟨Nat.le_trans (sz_int D) (Nat.succ_le_succ (blen_small (n := 64) (by unfold i64r at hDr; omega)))⟩
  have b8 : Bd ((Int.tmod a5 8 : Int) : Rat) 65 := ⟨Nat.le_trans (sz_int _) (Nat.succ_le_succ (blen_small (n := 64) (by unfold i64r at hr8; omega)))⟩
  have hDq : (D : Rat) ≠ 0 := by
    intro h
    apply hD0
    exact_mod_cast h
  have hu : IntKind.u64.wrap a4 ≠ 0 := by
    unfold i64r at h4
    rw [IntKind.wrap_u64]; omega
  have sc : sz ((a5 : Rat) / (D : Rat)) ≤ 1000 := Nat.le_trans (sz_frac h5 hDr hD0) (by omega)
  have sg' : sz (((x.floor : Rat) * (D : Rat) + ((Int.tmod a5 8 : Int) : Rat)) / (D : Rat)) ≤ 1000 := Nat.le_trans (inferInstance : Bd (((x.floor : Rat) * (D : Rat) + ((Int.tmod a5 8 : Int) : Rat)) / (D : Rat)) _).le (by decide)
  have sf : sz ((x.floor : Int) : Rat) ≤ 1000 := by have := sz_floor x; omega
  have hloop : Loop (fun (s : Int) => m_l_ExactRounds_l1 a4 x (x.floor : Rat) b ((a5 : Rat) / (D : Rat)) (((x.floor : Rat) * (D : Rat) + ((Int.tmod a5 8 : Int) : Rat)) / (D : Rat)) s) 0 = some (Ex.brk ()) := by
    rw [Loop_next (step_r a4 x _ b _ _ ((a5 : Rat) / (D : Rat)) 0 (by omega) rfl h4 s1 hbs sc hbest (by omega))]
    rw [Loop_next (step_r a4 x _ b _ _ (((x.floor : Rat) * (D : Rat) + ((Int.tmod a5 8 : Int) : Rat)) / (D : Rat)) (0 + 1) (by omega) rfl h4 s1 hbs sg' hbest (by omega))]
    rw [Loop_next (step_r a4 x _ b _ _ (x.floor : Rat) (0 + 1 + 1) (by omega) rfl h4 s1 hbs sf hbest (by omega))]
    exact Loop_done rfl
  simp only [Option.bind_some, q_den_eq qb, eI, q_cmpB, Nat.reduceAdd, Nat.reduceLeDiff, hcb, Bool.false_eq_true, if_false, bne_self_eq_false, hD, must_eq hu, eq1, eq2, eq3, q_mulB, q_addB, q_divB, if_neg hDq, hloop]
end Go.Am
