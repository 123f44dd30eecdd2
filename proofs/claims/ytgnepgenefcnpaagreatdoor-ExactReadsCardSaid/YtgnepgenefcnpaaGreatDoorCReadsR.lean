/- ExactReads returns true for every input and leaves its arguments as they were: the given statement. Condition: the listed package variables hold what the program lays (the card ties them). -/
import Derived.Test.YtgnepgenefcnpaaGreatDoorCReads
import Derived.Test.YtgnepgenefcnpaaGreatDoorCards
import Derived.Test.YtgnepgenefcnpaaGreatDoorTie
import Derived.ProofKit
import Derived.OpenShut
import Derived.LaidMore
import Derived.Lay
import Derived.SevenTiedAt
import Derived.Stop.Joined
set_option linter.unusedVariables false
set_option linter.unusedSimpArgs false
namespace Go.Proofs.YtgnepgenefcnpaaGreatDoor
open Go.ChangeShapes Go.WideShapes Go.ChangeAt Go.RowKit
open Go.ChangeMaps (open_string shut_string)
set_option maxRecDepth 100000 in
theorem exactReads_lifted (os : Os) (started : os.Started) (H : Type) (enc : TypeId × Value → H) :
    ReturnsInHanded {} Tryz.checked os 3 .any (fun w args => (Rows.exactReadsSpec.pre enc Tryz.prog Tryz.f3 Rows.exactReadsRow.domain false w args ∧ laidMetH Tryz.prog Rows.exactReadsRow.laid w) ∧ sizedMet enc Tryz.prog Tryz.f3 (OpenSpec.ofChange Rows.exactReadsSpec) false w args)
      (Rows.exactReadsSpec.post enc Tryz.prog Tryz.f3 false true false false) := by
  refine returnsInHanded_of_change_and (C := Tryz.checked) (X := fun w _ => laidMetH Tryz.prog Rows.exactReadsRow.laid w) (fun _ _ _ hh h => h.of_heap hh) Go.Am.own_pp started (by kernel_rfl) Tryz.func3
    (ChangeSpec.witness_shaped (enc := enc) (C := Tryz.checked) (os := os) (X := fun w _ => laidMetH Tryz.prog Rows.exactReadsRow.laid w) false (World.laidAll Tryz.prog os Rows.exactReadsRow.laid) #[.string ByteArray.empty] 8 (World.laidAll_os _ _ _)
      (World.shaped_of_ZipB (by kernel_rfl) (by kernel_rfl)) (by kernel_rfl) (by kernel_rfl) (by kernel_rfl)
      (by rw [MakeChecks.laidMetH_plain _ _ _ (by kernel_rfl)]; exact laidMet_laidAll _ (by kernel_rfl) (by kernel_rfl))) ?_
  intro W base args ds gs before hval0 hW hc hsz0 hL _
  have hsz : (DataW.weightsEach Tryz.prog (Tryz.f3.params.toList ++ Rows.exactReadsSpec.plain.varTypes Tryz.prog) (ds ++ gs)).all (· ≤ reachBytes) = true := hsz0
  have hval : ∀ (j : Nat) t v, Tryz.f3.params[j]? = some t → args[j]? = some v → Value.okWide Tryz.prog W .any base t v := hval0
  have hW1 := hW
  obtain ⟨p, q, hA0, hV, rfl, hfz, hnd⟩ := hW
  have hA : DataW.TrodAll enc Tryz.prog W 0 (fun _ => true) true Tryz.f3.params.toList args.toList ds p := hA0
  rw [Tryz.params3] at hA hval hsz
  obtain ⟨v0, vs0, d0, ds0, p0, q0, hargs, rfl, rfl, h0, r0⟩ := trodAll_cons hA
  obtain ⟨rfl, rfl, rfl⟩ := trodAll_nil r0
  obtain rfl : args = #[v0] := by cases args; simp_all
  obtain ⟨rfl, rfl⟩ := trodVars_none hV
  have k0 := h0
  have lt0 : ∀ x ∈ p0, x.block < W.heap.size := by obtain ⟨m, hm⟩ := k0; exact DataW.trod_lt m _ _ _ hm
  obtain ⟨b0, rfl, rfl, rfl, y0⟩ := open_string Tryz.underlying9 (hval 0 9 v0 rfl rfl) h0
  have s0 : b0.size ≤ 140737488351232 := by
    have z := sized_string hsz (j := 0) (t := 9) rfl rfl
    rw [Array.length_toList] at z
    exact z
  obtain ⟨⟨u0⟩⟩ := b0
  have call := (Go.Am.C_l_ExactReads (Go.Am.Reads_true u0 (by have : u0.length ≤ 140737488351232 := s0; omega))).plain.calls (fun _ => True) W [.string ⟨u0.toArray⟩] ⟨rfl, trivial⟩
  refine Calls.mono call (fun e W2 ⟨v, he, hv, bel⟩ => ?_)
  subst he; subst hv
  exact ⟨_, rfl, _, _, _, [], _, [], hW1, trodAll_mk1 (shut_bool Tryz.underlying4 _), trodAll_cons_mk (Below.trod Go.Am.laidOut (by kernel_rfl) (of_decide_eq_true (by kernel_rfl)) k0 bel lt0) (trodAll_mk0), rfl, bel.frame _, fun h => by cases h⟩
theorem exactReads_inPlace : (Rows.exactReadsRow.inPlace == Tryz.prog.inPlace 3) = true := by kernel_rfl
theorem exactReads_unfollowed : (Rows.exactReadsRow.unfollowed == Tryz.prog.unfollowed 3) = true := by kernel_rfl
theorem exactReads_recurses : (Rows.exactReadsRow.recurses == Tryz.prog.recurses 3) = true := by kernel_rfl
theorem exactReads_named : (Rows.exactReadsRow.named == Tryz.prog.varsNamed 3) = true := by kernel_rfl
theorem exactReads_keys : (Rows.exactReadsRow.plainKeys == Tryz.prog.plainKeys) = true := by kernel_rfl
theorem exactReads_goes : false = Rows.exactReadsRow.goesBy Tryz.prog := by kernel_rfl
theorem exactReads_closed : joinedFacts Tryz.prog 3 Tryz.f3 Rows.exactReadsSpec Rows.exactReadsRow = true := by
  unfold joinedFacts
  rw [show laidOutB Tryz.prog = true from Go.Am.laidOut, show mapsRowed Tryz.prog = true from Go.Am.mapsRow, exactReads_inPlace, exactReads_unfollowed, exactReads_recurses, exactReads_named, exactReads_keys]
  kernel_rfl
theorem exactReads_row : Rows.ExactReadsSaid :=
  OpenClaim.holds_of_wide 3 Tryz.f3 rfl rfl rfl rfl rfl rfl rfl ⟨rfl, rfl, rfl, rfl, rfl⟩ rfl rfl rfl rfl rfl (by kernel_rfl) Tryz.func3 exactReads_closed
    (of_decide_eq_true (by kernel_rfl)) (by unfold Func.isWrapper; first | (rw [if_pos (by decide +kernel)]; kernel_rfl) | (rw [if_neg (by decide +kernel)]; exact ⟨rfl, rfl⟩))
    (fun os started H enc _ => exactReads_lifted os started H enc)
theorem exactReads_holds : Rows.ExactReadsCardSaid :=
  Claim7.holds_tied_plain_at .later [] [.data, .pinned] true (true, "8bda451d2dc9f473a89e44847a5b0bd84339d99a2acb6b2f94f1282031d25d93") false exactReads_row (fun _ h => by cases h) (by kernel_rfl) (fun _ h => by cases h) exactReads_row_tie rfl ⟨rfl, rfl⟩ Go.Am.mainIs rfl
    (fun f fn hf hfn => by
      obtain rfl : f = 3 := Option.some.inj ((show Tryz.prog.funcNamed "amble/amblelaw01.ExactReads" = some 3 by kernel_rfl).symm.trans hf) |>.symm
      obtain rfl : fn = Tryz.f3 := (Option.some.inj (Tryz.func3.symm.trans hfn)).symm
      exact ⟨Go.Am.looks0, fun j t ht => by
        rw [Tryz.params3] at ht
        have hm : t ∈ [9] := by simpa using Array.mem_of_getElem? ht
        have hall : ([9].all fun u => !Tryz.prog.wantsStandIn u) = true := by kernel_rfl
        exact (show Tryz.prog.wantsStandIn t = false by simpa using List.all_eq_true.1 hall t hm)⟩)
    exactReads_goes
end Go.Proofs.YtgnepgenefcnpaaGreatDoor
