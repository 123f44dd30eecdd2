/- ExactParts returns true for every input and leaves its arguments as they were: the given statement. Condition: the listed package variables hold what the program lays (the card ties them). -/
import Derived.Test.YtgnepgenefcnpaaGreatDoorCParts
import Derived.Test.YtgnepgenefcnpaaGreatDoorCards
import Derived.Test.YtgnepgenefcnpaaGreatDoorTie
import Derived.ProofKit
import Derived.OpenShut
import Derived.LaidMore
import Derived.Lay
import Derived.SevenTiedAt
import Derived.Stop.Joined
set_option linter.unusedVariables false
set_option linter.unusedSimpArgs false
namespace Go.Proofs.YtgnepgenefcnpaaGreatDoor
open Go.ChangeShapes Go.WideShapes Go.ChangeAt Go.RowKit
open Go.ChangeMaps (open_string shut_string)
set_option maxRecDepth 100000 in
theorem exactParts_lifted (os : Os) (started : os.Started) (H : Type) (enc : TypeId × Value → H) :
    ReturnsInHanded {} Tryz.checked os 10 .any (fun w args => (Rows.exactPartsSpec.pre enc Tryz.prog Tryz.f10 Rows.exactPartsRow.domain false w args ∧ laidMetH Tryz.prog Rows.exactPartsRow.laid w) ∧ sizedMet enc Tryz.prog Tryz.f10 (OpenSpec.ofChange Rows.exactPartsSpec) false w args)
      (Rows.exactPartsSpec.post enc Tryz.prog Tryz.f10 false true false false) := by
  refine returnsInHanded_of_change_and (C := Tryz.checked) (X := fun w _ => laidMetH Tryz.prog Rows.exactPartsRow.laid w) (fun _ _ _ hh h => h.of_heap hh) Go.Am.own_pp started (by kernel_rfl) Tryz.func10
    (ChangeSpec.witness_shaped (enc := enc) (C := Tryz.checked) (os := os) (X := fun w _ => laidMetH Tryz.prog Rows.exactPartsRow.laid w) false (World.laidAll Tryz.prog os Rows.exactPartsRow.laid) #[.agg #[.int .i64 0, .int .i64 0, .int .u8 0]] 8 (World.laidAll_os _ _ _)
      (World.shaped_of_ZipB (by kernel_rfl) (by kernel_rfl)) (by kernel_rfl) (by kernel_rfl) (by kernel_rfl)
      (by rw [MakeChecks.laidMetH_plain _ _ _ (by kernel_rfl)]; exact laidMet_laidAll _ (by kernel_rfl) (by kernel_rfl))) ?_
  intro W base args ds gs before hval0 hW hc hsz0 hL _
  have hsz : (DataW.weightsEach Tryz.prog (Tryz.f10.params.toList ++ Rows.exactPartsSpec.plain.varTypes Tryz.prog) (ds ++ gs)).all (· ≤ reachBytes) = true := hsz0
  have hval : ∀ (j : Nat) t v, Tryz.f10.params[j]? = some t → args[j]? = some v → Value.okWide Tryz.prog W .any base t v := hval0
  have hW1 := hW
  obtain ⟨p, q, hA0, hV, rfl, hfz, hnd⟩ := hW
  have hA : DataW.TrodAll enc Tryz.prog W 0 (fun _ => true) true Tryz.f10.params.toList args.toList ds p := hA0
  rw [Tryz.params10] at hA hval hsz
  obtain ⟨v0, vs0, d0, ds0, p0, q0, hargs, rfl, rfl, h0, r0⟩ := trodAll_cons hA
  obtain ⟨rfl, rfl, rfl⟩ := trodAll_nil r0
  obtain rfl : args = #[v0] := by cases args; simp_all
  obtain ⟨rfl, rfl⟩ := trodVars_none hV
  have k0 := h0
  have lt0 : ∀ x ∈ p0, x.block < W.heap.size := by obtain ⟨m, hm⟩ := k0; exact DataW.trod_lt m _ _ _ hm
  obtain ⟨c0, rfl, n0, g0⟩ := Go.Am.open_st Tryz.underlying43 (hval 0 43 v0 rfl rfl) h0
  obtain ⟨x0, x1, x2, e0, ⟨w0_0a, w0_0b, w0_0c⟩⟩ := Go.Am.open_num g0
  have call := (Go.Am.C_l_ExactParts (Go.Am.Parts_true x0 x1 x2 w0_0a w0_0b w0_0c)).plain.calls (fun _ => True) W [.agg c0] ⟨Go.Am.aggI (l := [(.i64, x0), (.i64, x1), (.u8, x2)]) e0, trivial⟩
  refine Calls.mono call (fun e W2 ⟨v, he, hv, bel⟩ => ?_)
  subst he; subst hv
  exact ⟨_, rfl, _, _, _, [], _, [], hW1, trodAll_mk1 (shut_bool Tryz.underlying4 _), trodAll_cons_mk (Below.trod Go.Am.laidOut (by kernel_rfl) (of_decide_eq_true (by kernel_rfl)) k0 bel lt0) (trodAll_mk0), rfl, bel.frame _, fun h => by cases h⟩
theorem exactParts_inPlace : (Rows.exactPartsRow.inPlace == Tryz.prog.inPlace 10) = true := by kernel_rfl
theorem exactParts_unfollowed : (Rows.exactPartsRow.unfollowed == Tryz.prog.unfollowed 10) = true := by kernel_rfl
theorem exactParts_recurses : (Rows.exactPartsRow.recurses == Tryz.prog.recurses 10) = true := by kernel_rfl
theorem exactParts_named : (Rows.exactPartsRow.named == Tryz.prog.varsNamed 10) = true := by kernel_rfl
theorem exactParts_keys : (Rows.exactPartsRow.plainKeys == Tryz.prog.plainKeys) = true := by kernel_rfl
theorem exactParts_goes : false = Rows.exactPartsRow.goesBy Tryz.prog := by kernel_rfl
theorem exactParts_closed : joinedFacts Tryz.prog 10 Tryz.f10 Rows.exactPartsSpec Rows.exactPartsRow = true := by
  unfold joinedFacts
  rw [show laidOutB Tryz.prog = true from Go.Am.laidOut, show mapsRowed Tryz.prog = true from Go.Am.mapsRow, exactParts_inPlace, exactParts_unfollowed, exactParts_recurses, exactParts_named, exactParts_keys]
  kernel_rfl
theorem exactParts_row : Rows.ExactPartsSaid :=
  OpenClaim.holds_of_wide 10 Tryz.f10 rfl rfl rfl rfl rfl rfl rfl ⟨rfl, rfl, rfl, rfl, rfl⟩ rfl rfl rfl rfl rfl (by kernel_rfl) Tryz.func10 exactParts_closed
    (of_decide_eq_true (by kernel_rfl)) (by unfold Func.isWrapper; first | (rw [if_pos (by decide +kernel)]; kernel_rfl) | (rw [if_neg (by decide +kernel)]; exact ⟨rfl, rfl⟩))
    (fun os started H enc _ => exactParts_lifted os started H enc)
theorem exactParts_holds : Rows.ExactPartsCardSaid :=
  Claim7.holds_tied_plain_at .later [] [.data, .pinned] true (true, "8bda451d2dc9f473a89e44847a5b0bd84339d99a2acb6b2f94f1282031d25d93") false exactParts_row (fun _ h => by cases h) (by kernel_rfl) (fun _ h => by cases h) exactParts_row_tie rfl ⟨rfl, rfl⟩ Go.Am.mainIs rfl
    (fun f fn hf hfn => by
      obtain rfl : f = 10 := Option.some.inj ((show Tryz.prog.funcNamed "amble/amblelaw01.ExactParts" = some 10 by kernel_rfl).symm.trans hf) |>.symm
      obtain rfl : fn = Tryz.f10 := (Option.some.inj (Tryz.func10.symm.trans hfn)).symm
      exact ⟨Go.Am.looks0, fun j t ht => by
        rw [Tryz.params10] at ht
        have hm : t ∈ [43] := by simpa using Array.mem_of_getElem? ht
        have hall : ([43].all fun u => !Tryz.prog.wantsStandIn u) = true := by kernel_rfl
        exact (show Tryz.prog.wantsStandIn t = false by simpa using List.all_eq_true.1 hall t hm)⟩)
    exactParts_goes
end Go.Proofs.YtgnepgenefcnpaaGreatDoor
