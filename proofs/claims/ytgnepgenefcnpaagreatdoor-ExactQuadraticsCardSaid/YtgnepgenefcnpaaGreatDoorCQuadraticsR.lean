/- ExactQuadratics returns true for every input and leaves its arguments as they were: the given statement. Condition: the listed package variables hold what the program lays (the card ties them). -/
import Derived.Test.YtgnepgenefcnpaaGreatDoorCQuadratics
import Derived.Test.YtgnepgenefcnpaaGreatDoorCards
import Derived.Test.YtgnepgenefcnpaaGreatDoorTie
import Derived.ProofKit
import Derived.OpenShut
import Derived.LaidMore
import Derived.Lay
import Derived.SevenTiedAt
import Derived.Stop.Joined
set_option linter.unusedVariables false
set_option linter.unusedSimpArgs false
namespace Go.Proofs.YtgnepgenefcnpaaGreatDoor
open Go.ChangeShapes Go.WideShapes Go.ChangeAt Go.RowKit
open Go.ChangeMaps (open_string shut_string)
set_option maxRecDepth 100000 in
theorem exactQuadratics_lifted (os : Os) (started : os.Started) (H : Type) (enc : TypeId × Value → H) :
    ReturnsInHanded {} Tryz.checked os 13 .any (fun w args => (Rows.exactQuadraticsSpec.pre enc Tryz.prog Tryz.f13 Rows.exactQuadraticsRow.domain false w args ∧ laidMetH Tryz.prog Rows.exactQuadraticsRow.laid w) ∧ sizedMet enc Tryz.prog Tryz.f13 (OpenSpec.ofChange Rows.exactQuadraticsSpec) false w args)
      (Rows.exactQuadraticsSpec.post enc Tryz.prog Tryz.f13 false true false false) := by
  refine returnsInHanded_of_change_and (C := Tryz.checked) (X := fun w _ => laidMetH Tryz.prog Rows.exactQuadraticsRow.laid w) (fun _ _ _ hh h => h.of_heap hh) Go.Am.own_pp started (by kernel_rfl) Tryz.func13
    (ChangeSpec.witness_shaped (enc := enc) (C := Tryz.checked) (os := os) (X := fun w _ => laidMetH Tryz.prog Rows.exactQuadraticsRow.laid w) false (World.laidAll Tryz.prog os Rows.exactQuadraticsRow.laid) #[.agg #[.int .i64 0, .int .i64 0, .int .u8 0], .agg #[.int .i64 0, .int .i64 0, .int .u8 0], .agg #[.int .i64 0, .int .i64 0, .int .u8 0]] 8 (World.laidAll_os _ _ _)
      (World.shaped_of_ZipB (by kernel_rfl) (by kernel_rfl)) (by kernel_rfl) (by kernel_rfl) (by kernel_rfl)
      (by rw [MakeChecks.laidMetH_plain _ _ _ (by kernel_rfl)]; exact laidMet_laidAll _ (by kernel_rfl) (by kernel_rfl))) ?_
  intro W base args ds gs before hval0 hW hc hsz0 hL _
  have hsz : (DataW.weightsEach Tryz.prog (Tryz.f13.params.toList ++ Rows.exactQuadraticsSpec.plain.varTypes Tryz.prog) (ds ++ gs)).all (· ≤ reachBytes) = true := hsz0
  have hval : ∀ (j : Nat) t v, Tryz.f13.params[j]? = some t → args[j]? = some v → Value.okWide Tryz.prog W .any base t v := hval0
  have hW1 := hW
  obtain ⟨p, q, hA0, hV, rfl, hfz, hnd⟩ := hW
  have hA : DataW.TrodAll enc Tryz.prog W 0 (fun _ => true) true Tryz.f13.params.toList args.toList ds p := hA0
  rw [Tryz.params13] at hA hval hsz
  obtain ⟨v0, vs0, d0, ds0, p0, q0, hargs, rfl, rfl, h0, r0⟩ := trodAll_cons hA
  obtain ⟨v1, vs1, d1, ds1, p1, q1, rfl, rfl, rfl, h1, r1⟩ := trodAll_cons r0
  obtain ⟨v2, vs2, d2, ds2, p2, q2, rfl, rfl, rfl, h2, r2⟩ := trodAll_cons r1
  obtain ⟨rfl, rfl, rfl⟩ := trodAll_nil r2
  obtain rfl : args = #[v0, v1, v2] := by cases args; simp_all
  obtain ⟨rfl, rfl⟩ := trodVars_none hV
  have k0 := h0
  have lt0 : ∀ x ∈ p0, x.block < W.heap.size := by obtain ⟨m, hm⟩ := k0; exact DataW.trod_lt m _ _ _ hm
  obtain ⟨c0, rfl, n0, g0⟩ := Go.Am.open_st Tryz.underlying43 (hval 0 43 v0 rfl rfl) h0
  obtain ⟨x0, x1, x2, e0, ⟨w0_0a, w0_0b, w0_0c⟩⟩ := Go.Am.open_num g0
  have k1 := h1
  have lt1 : ∀ x ∈ p1, x.block < W.heap.size := by obtain ⟨m, hm⟩ := k1; exact DataW.trod_lt m _ _ _ hm
  obtain ⟨c1, rfl, n1, g1⟩ := Go.Am.open_st Tryz.underlying43 (hval 1 43 v1 rfl rfl) h1
  obtain ⟨x3, x4, x5, e1, ⟨w1_0a, w1_0b, w1_0c⟩⟩ := Go.Am.open_num g1
  have k2 := h2
  have lt2 : ∀ x ∈ p2, x.block < W.heap.size := by obtain ⟨m, hm⟩ := k2; exact DataW.trod_lt m _ _ _ hm
  obtain ⟨c2, rfl, n2, g2⟩ := Go.Am.open_st Tryz.underlying43 (hval 2 43 v2 rfl rfl) h2
  obtain ⟨x6, x7, x8, e2, ⟨w2_0a, w2_0b, w2_0c⟩⟩ := Go.Am.open_num g2
  have call := (Go.Am.C_l_ExactQuadratics (Go.Am.Quadratics_true x0 x1 x2 x3 x4 x5 x6 x7 x8 w0_0a w0_0b w0_0c w1_0a w1_0b w1_0c w2_0a w2_0b w2_0c)).plain.calls (fun _ => True) W [.agg c0, .agg c1, .agg c2] ⟨Go.Am.aggI (l := [(.i64, x0), (.i64, x1), (.u8, x2)]) e0, Go.Am.aggI (l := [(.i64, x3), (.i64, x4), (.u8, x5)]) e1, Go.Am.aggI (l := [(.i64, x6), (.i64, x7), (.u8, x8)]) e2, trivial⟩
  refine Calls.mono call (fun e W2 ⟨v, he, hv, bel⟩ => ?_)
  subst he; subst hv
  exact ⟨_, rfl, _, _, _, [], _, [], hW1, trodAll_mk1 (shut_bool Tryz.underlying4 _), trodAll_cons_mk (Below.trod Go.Am.laidOut (by kernel_rfl) (of_decide_eq_true (by kernel_rfl)) k0 bel lt0) (trodAll_cons_mk (Below.trod Go.Am.laidOut (by kernel_rfl) (of_decide_eq_true (by kernel_rfl)) k1 bel lt1) (trodAll_cons_mk (Below.trod Go.Am.laidOut (by kernel_rfl) (of_decide_eq_true (by kernel_rfl)) k2 bel lt2) (trodAll_mk0))), rfl, bel.frame _, fun h => by cases h⟩
theorem exactQuadratics_inPlace : (Rows.exactQuadraticsRow.inPlace == Tryz.prog.inPlace 13) = true := by kernel_rfl
theorem exactQuadratics_unfollowed : (Rows.exactQuadraticsRow.unfollowed == Tryz.prog.unfollowed 13) = true := by kernel_rfl
theorem exactQuadratics_recurses : (Rows.exactQuadraticsRow.recurses == Tryz.prog.recurses 13) = true := by kernel_rfl
theorem exactQuadratics_named : (Rows.exactQuadraticsRow.named == Tryz.prog.varsNamed 13) = true := by kernel_rfl
theorem exactQuadratics_keys : (Rows.exactQuadraticsRow.plainKeys == Tryz.prog.plainKeys) = true := by kernel_rfl
theorem exactQuadratics_goes : false = Rows.exactQuadraticsRow.goesBy Tryz.prog := by kernel_rfl
theorem exactQuadratics_closed : joinedFacts Tryz.prog 13 Tryz.f13 Rows.exactQuadraticsSpec Rows.exactQuadraticsRow = true := by
  unfold joinedFacts
  rw [show laidOutB Tryz.prog = true from Go.Am.laidOut, show mapsRowed Tryz.prog = true from Go.Am.mapsRow, exactQuadratics_inPlace, exactQuadratics_unfollowed, exactQuadratics_recurses, exactQuadratics_named, exactQuadratics_keys]
  kernel_rfl
theorem exactQuadratics_row : Rows.ExactQuadraticsSaid :=
  OpenClaim.holds_of_wide 13 Tryz.f13 rfl rfl rfl rfl rfl rfl rfl ⟨rfl, rfl, rfl, rfl, rfl⟩ rfl rfl rfl rfl rfl (by kernel_rfl) Tryz.func13 exactQuadratics_closed
    (of_decide_eq_true (by kernel_rfl)) (by unfold Func.isWrapper; first | (rw [if_pos (by decide +kernel)]; kernel_rfl) | (rw [if_neg (by decide +kernel)]; exact ⟨rfl, rfl⟩))
    (fun os started H enc _ => exactQuadratics_lifted os started H enc)
theorem exactQuadratics_holds : Rows.ExactQuadraticsCardSaid :=
  Claim7.holds_tied_plain_at .later [] [.data, .pinned] true (true, "8bda451d2dc9f473a89e44847a5b0bd84339d99a2acb6b2f94f1282031d25d93") false exactQuadratics_row (fun _ h => by cases h) (by kernel_rfl) (fun _ h => by cases h) exactQuadratics_row_tie rfl ⟨rfl, rfl⟩ Go.Am.mainIs rfl
    (fun f fn hf hfn => by
      obtain rfl : f = 13 := Option.some.inj ((show Tryz.prog.funcNamed "amble/amblelaw01.ExactQuadratics" = some 13 by kernel_rfl).symm.trans hf) |>.symm
      obtain rfl : fn = Tryz.f13 := (Option.some.inj (Tryz.func13.symm.trans hfn)).symm
      exact ⟨Go.Am.looks0, fun j t ht => by
        rw [Tryz.params13] at ht
        have hm : t ∈ [43, 43, 43] := by simpa using Array.mem_of_getElem? ht
        have hall : ([43, 43, 43].all fun u => !Tryz.prog.wantsStandIn u) = true := by kernel_rfl
        exact (show Tryz.prog.wantsStandIn t = false by simpa using List.all_eq_true.1 hall t hm)⟩)
    exactQuadratics_goes
end Go.Proofs.YtgnepgenefcnpaaGreatDoor
