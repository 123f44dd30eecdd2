/- ExactSurds returns true for every input and leaves its arguments as they were: the given statement. Condition: the listed package variables hold what the program lays (the card ties them). -/
import Derived.Test.YtgnepgenefcnpaaGreatDoorCSurds
import Derived.Test.YtgnepgenefcnpaaGreatDoorCards
import Derived.Test.YtgnepgenefcnpaaGreatDoorTie
import Derived.ProofKit
import Derived.OpenShut
import Derived.LaidMore
import Derived.Lay
import Derived.SevenTiedAt
import Derived.Stop.Joined
set_option linter.unusedVariables false
set_option linter.unusedSimpArgs false
namespace Go.Proofs.YtgnepgenefcnpaaGreatDoor
open Go.ChangeShapes Go.WideShapes Go.ChangeAt Go.RowKit
open Go.ChangeMaps (open_string shut_string)
set_option maxRecDepth 100000 in
theorem exactSurds_lifted (os : Os) (started : os.Started) (H : Type) (enc : TypeId × Value → H) :
    ReturnsInHanded {} Tryz.checked os 16 .any (fun w args => (Rows.exactSurdsSpec.pre enc Tryz.prog Tryz.f16 Rows.exactSurdsRow.domain false w args ∧ laidMetH Tryz.prog Rows.exactSurdsRow.laid w) ∧ sizedMet enc Tryz.prog Tryz.f16 (OpenSpec.ofChange Rows.exactSurdsSpec) false w args)
      (Rows.exactSurdsSpec.post enc Tryz.prog Tryz.f16 false true false false) := by
  refine returnsInHanded_of_change_and (C := Tryz.checked) (X := fun w _ => laidMetH Tryz.prog Rows.exactSurdsRow.laid w) (fun _ _ _ hh h => h.of_heap hh) Go.Am.own_pp started (by kernel_rfl) Tryz.func16
    (ChangeSpec.witness_shaped (enc := enc) (C := Tryz.checked) (os := os) (X := fun w _ => laidMetH Tryz.prog Rows.exactSurdsRow.laid w) false (World.laidAll Tryz.prog os Rows.exactSurdsRow.laid) #[.agg #[.int .i64 0, .int .i64 0, .int .u8 0, .int .i64 0, .int .i64 0, .int .u8 0, .int .i64 0, .int .i64 0, .int .u8 0], .agg #[.int .i64 0, .int .i64 0, .int .u8 0, .int .i64 0, .int .i64 0, .int .u8 0, .int .i64 0, .int .i64 0, .int .u8 0], .int .i64 0] 8 (World.laidAll_os _ _ _)
      (World.shaped_of_ZipB (by kernel_rfl) (by kernel_rfl)) (by kernel_rfl) (by kernel_rfl) (by kernel_rfl)
      (by rw [MakeChecks.laidMetH_plain _ _ _ (by kernel_rfl)]; exact laidMet_laidAll _ (by kernel_rfl) (by kernel_rfl))) ?_
  intro W base args ds gs before hval0 hW hc hsz0 hL _
  have hsz : (DataW.weightsEach Tryz.prog (Tryz.f16.params.toList ++ Rows.exactSurdsSpec.plain.varTypes Tryz.prog) (ds ++ gs)).all (· ≤ reachBytes) = true := hsz0
  have hval : ∀ (j : Nat) t v, Tryz.f16.params[j]? = some t → args[j]? = some v → Value.okWide Tryz.prog W .any base t v := hval0
  have hW1 := hW
  obtain ⟨p, q, hA0, hV, rfl, hfz, hnd⟩ := hW
  have hA : DataW.TrodAll enc Tryz.prog W 0 (fun _ => true) true Tryz.f16.params.toList args.toList ds p := hA0
  rw [Tryz.params16] at hA hval hsz
  obtain ⟨v0, vs0, d0, ds0, p0, q0, hargs, rfl, rfl, h0, r0⟩ := trodAll_cons hA
  obtain ⟨v1, vs1, d1, ds1, p1, q1, rfl, rfl, rfl, h1, r1⟩ := trodAll_cons r0
  obtain ⟨v2, vs2, d2, ds2, p2, q2, rfl, rfl, rfl, h2, r2⟩ := trodAll_cons r1
  obtain ⟨rfl, rfl, rfl⟩ := trodAll_nil r2
  obtain rfl : args = #[v0, v1, v2] := by cases args; simp_all
  obtain ⟨rfl, rfl⟩ := trodVars_none hV
  have k0 := h0
  have lt0 : ∀ x ∈ p0, x.block < W.heap.size := by obtain ⟨m, hm⟩ := k0; exact DataW.trod_lt m _ _ _ hm
  obtain ⟨c0, rfl, n0, g0⟩ := Go.Am.open_st Tryz.underlying151 (hval 0 151 v0 rfl rfl) h0
  obtain ⟨x0, x1, x2, x3, x4, x5, x6, x7, x8, e0, ⟨w0_0a, w0_0b, w0_0c⟩, ⟨w0_1a, w0_1b, w0_1c⟩, ⟨w0_2a, w0_2b, w0_2c⟩⟩ := Go.Am.open_root g0
  have k1 := h1
  have lt1 : ∀ x ∈ p1, x.block < W.heap.size := by obtain ⟨m, hm⟩ := k1; exact DataW.trod_lt m _ _ _ hm
  obtain ⟨c1, rfl, n1, g1⟩ := Go.Am.open_st Tryz.underlying151 (hval 1 151 v1 rfl rfl) h1
  obtain ⟨x9, x10, x11, x12, x13, x14, x15, x16, x17, e1, ⟨w1_0a, w1_0b, w1_0c⟩, ⟨w1_1a, w1_1b, w1_1c⟩, ⟨w1_2a, w1_2b, w1_2c⟩⟩ := Go.Am.open_root g1
  have k2 := h2
  have lt2 : ∀ x ∈ p2, x.block < W.heap.size := by obtain ⟨m, hm⟩ := k2; exact DataW.trod_lt m _ _ _ hm
  obtain ⟨x18, rfl, rfl, rfl, w2⟩ := open_int Tryz.underlying3 (hval 2 3 v2 rfl rfl) h2
  have call := (Go.Am.C_l_ExactSurds (Go.Am.Surds_true x0 x1 x2 x3 x4 x5 x6 x7 x8 x9 x10 x11 x12 x13 x14 x15 x16 x17 x18 w0_0a w0_0b w0_0c w0_1a w0_1b w0_1c w0_2a w0_2b w0_2c w1_0a w1_0b w1_0c w1_1a w1_1b w1_1c w1_2a w1_2b w1_2c (Go.Am.wf_i64 w2))).plain.calls (fun _ => True) W [.agg c0, .agg c1, .int .i64 x18] ⟨Go.Am.aggI (l := [(.i64, x0), (.i64, x1), (.u8, x2), (.i64, x3), (.i64, x4), (.u8, x5), (.i64, x6), (.i64, x7), (.u8, x8)]) e0, Go.Am.aggI (l := [(.i64, x9), (.i64, x10), (.u8, x11), (.i64, x12), (.i64, x13), (.u8, x14), (.i64, x15), (.i64, x16), (.u8, x17)]) e1, rfl, trivial⟩
  refine Calls.mono call (fun e W2 ⟨v, he, hv, bel⟩ => ?_)
  subst he; subst hv
  exact ⟨_, rfl, _, _, _, [], _, [], hW1, trodAll_mk1 (shut_bool Tryz.underlying4 _), trodAll_cons_mk (Below.trod Go.Am.laidOut (by kernel_rfl) (of_decide_eq_true (by kernel_rfl)) k0 bel lt0) (trodAll_cons_mk (Below.trod Go.Am.laidOut (by kernel_rfl) (of_decide_eq_true (by kernel_rfl)) k1 bel lt1) (trodAll_cons_mk (Below.trod Go.Am.laidOut (by kernel_rfl) (of_decide_eq_true (by kernel_rfl)) k2 bel lt2) (trodAll_mk0))), rfl, bel.frame _, fun h => by cases h⟩
theorem exactSurds_inPlace : (Rows.exactSurdsRow.inPlace == Tryz.prog.inPlace 16) = true := by kernel_rfl
theorem exactSurds_unfollowed : (Rows.exactSurdsRow.unfollowed == Tryz.prog.unfollowed 16) = true := by kernel_rfl
theorem exactSurds_recurses : (Rows.exactSurdsRow.recurses == Tryz.prog.recurses 16) = true := by kernel_rfl
theorem exactSurds_named : (Rows.exactSurdsRow.named == Tryz.prog.varsNamed 16) = true := by kernel_rfl
theorem exactSurds_keys : (Rows.exactSurdsRow.plainKeys == Tryz.prog.plainKeys) = true := by kernel_rfl
theorem exactSurds_goes : false = Rows.exactSurdsRow.goesBy Tryz.prog := by kernel_rfl
theorem exactSurds_closed : joinedFacts Tryz.prog 16 Tryz.f16 Rows.exactSurdsSpec Rows.exactSurdsRow = true := by
  unfold joinedFacts
  rw [show laidOutB Tryz.prog = true from Go.Am.laidOut, show mapsRowed Tryz.prog = true from Go.Am.mapsRow, exactSurds_inPlace, exactSurds_unfollowed, exactSurds_recurses, exactSurds_named, exactSurds_keys]
  kernel_rfl
theorem exactSurds_row : Rows.ExactSurdsSaid :=
  OpenClaim.holds_of_wide 16 Tryz.f16 rfl rfl rfl rfl rfl rfl rfl ⟨rfl, rfl, rfl, rfl, rfl⟩ rfl rfl rfl rfl rfl (by kernel_rfl) Tryz.func16 exactSurds_closed
    (of_decide_eq_true (by kernel_rfl)) (by unfold Func.isWrapper; first | (rw [if_pos (by decide +kernel)]; kernel_rfl) | (rw [if_neg (by decide +kernel)]; exact ⟨rfl, rfl⟩))
    (fun os started H enc _ => exactSurds_lifted os started H enc)
theorem exactSurds_holds : Rows.ExactSurdsCardSaid :=
  Claim7.holds_tied_plain_at .later [] [.data, .pinned] true (true, "8bda451d2dc9f473a89e44847a5b0bd84339d99a2acb6b2f94f1282031d25d93") false exactSurds_row (fun _ h => by cases h) (by kernel_rfl) (fun _ h => by cases h) exactSurds_row_tie rfl ⟨rfl, rfl⟩ Go.Am.mainIs rfl
    (fun f fn hf hfn => by
      obtain rfl : f = 16 := Option.some.inj ((show Tryz.prog.funcNamed "amble/amblelaw01.ExactSurds" = some 16 by kernel_rfl).symm.trans hf) |>.symm
      obtain rfl : fn = Tryz.f16 := (Option.some.inj (Tryz.func16.symm.trans hfn)).symm
      exact ⟨Go.Am.looks0, fun j t ht => by
        rw [Tryz.params16] at ht
        have hm : t ∈ [151, 151, 3] := by simpa using Array.mem_of_getElem? ht
        have hall : ([151, 151, 3].all fun u => !Tryz.prog.wantsStandIn u) = true := by kernel_rfl
        exact (show Tryz.prog.wantsStandIn t = false by simpa using List.all_eq_true.1 hall t hm)⟩)
    exactSurds_goes
end Go.Proofs.YtgnepgenefcnpaaGreatDoor
