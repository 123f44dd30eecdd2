/- ExactMats returns true for every input and leaves its arguments as they were: the given statement. Condition: the listed package variables hold what the program lays (the card ties them). -/
import Derived.Test.YtgnepgenefcnpaaGreatDoorCMats
import Derived.Test.YtgnepgenefcnpaaGreatDoorCards
import Derived.Test.YtgnepgenefcnpaaGreatDoorTie
import Derived.ProofKit
import Derived.OpenShut
import Derived.LaidMore
import Derived.Lay
import Derived.SevenTiedAt
import Derived.Stop.Joined
set_option linter.unusedVariables false
set_option linter.unusedSimpArgs false
namespace Go.Proofs.YtgnepgenefcnpaaGreatDoor
open Go.ChangeShapes Go.WideShapes Go.ChangeAt Go.RowKit
open Go.ChangeMaps (open_string shut_string)
set_option maxRecDepth 100000 in
theorem exactMats_lifted (os : Os) (started : os.Started) (H : Type) (enc : TypeId × Value → H) :
    ReturnsInHanded {} Tryz.checked os 14 .any (fun w args => (Rows.exactMatsSpec.pre enc Tryz.prog Tryz.f14 Rows.exactMatsRow.domain false w args ∧ laidMetH Tryz.prog Rows.exactMatsRow.laid w) ∧ sizedMet enc Tryz.prog Tryz.f14 (OpenSpec.ofChange Rows.exactMatsSpec) false w args)
      (Rows.exactMatsSpec.post enc Tryz.prog Tryz.f14 false true false false) := by
  refine returnsInHanded_of_change_and (C := Tryz.checked) (X := fun w _ => laidMetH Tryz.prog Rows.exactMatsRow.laid w) (fun _ _ _ hh h => h.of_heap hh) Go.Am.own_pp started (by kernel_rfl) Tryz.func14
    (ChangeSpec.witness_shaped (enc := enc) (C := Tryz.checked) (os := os) (X := fun w _ => laidMetH Tryz.prog Rows.exactMatsRow.laid w) false (World.laidAll Tryz.prog os Rows.exactMatsRow.laid) #[.slice none 0 0, .slice none 0 0, .slice none 0 0] 8 (World.laidAll_os _ _ _)
      (World.shaped_of_ZipB (by kernel_rfl) (by kernel_rfl)) (by kernel_rfl) (by kernel_rfl) (by kernel_rfl)
      (by rw [MakeChecks.laidMetH_plain _ _ _ (by kernel_rfl)]; exact laidMet_laidAll _ (by kernel_rfl) (by kernel_rfl))) ?_
  intro W base args ds gs before hval0 hW hc hsz0 hL _
  have hsz : (DataW.weightsEach Tryz.prog (Tryz.f14.params.toList ++ Rows.exactMatsSpec.plain.varTypes Tryz.prog) (ds ++ gs)).all (· ≤ reachBytes) = true := hsz0
  have hval : ∀ (j : Nat) t v, Tryz.f14.params[j]? = some t → args[j]? = some v → Value.okWide Tryz.prog W .any base t v := hval0
  have hW1 := hW
  obtain ⟨p, q, hA0, hV, rfl, hfz, hnd⟩ := hW
  have hA : DataW.TrodAll enc Tryz.prog W 0 (fun _ => true) true Tryz.f14.params.toList args.toList ds p := hA0
  rw [Tryz.params14] at hA hval hsz
  obtain ⟨v0, vs0, d0, ds0, p0, q0, hargs, rfl, rfl, h0, r0⟩ := trodAll_cons hA
  obtain ⟨v1, vs1, d1, ds1, p1, q1, rfl, rfl, rfl, h1, r1⟩ := trodAll_cons r0
  obtain ⟨v2, vs2, d2, ds2, p2, q2, rfl, rfl, rfl, h2, r2⟩ := trodAll_cons r1
  obtain ⟨rfl, rfl, rfl⟩ := trodAll_nil r2
  obtain rfl : args = #[v0, v1, v2] := by cases args; simp_all
  obtain ⟨rfl, rfl⟩ := trodVars_none hV
  have k0 := h0
  have lt0 : ∀ x ∈ p0, x.block < W.heap.size := by obtain ⟨m, hm⟩ := k0; exact DataW.trod_lt m _ _ _ hm
  obtain ⟨xs0, m0, hd0⟩ := Go.Am.open_mats (hval 0 129 v0 rfl rfl) h0
  have k1 := h1
  have lt1 : ∀ x ∈ p1, x.block < W.heap.size := by obtain ⟨m, hm⟩ := k1; exact DataW.trod_lt m _ _ _ hm
  obtain ⟨xs1, m1, hd1⟩ := Go.Am.open_mats (hval 1 129 v1 rfl rfl) h1
  have k2 := h2
  have lt2 : ∀ x ∈ p2, x.block < W.heap.size := by obtain ⟨m, hm⟩ := k2; exact DataW.trod_lt m _ _ _ hm
  obtain ⟨xs2, m2, hd2⟩ := Go.Am.open_nums (hval 2 67 v2 rfl rfl) h2
  have call := (Go.Am.C_l_ExactMats (Go.Am.Mats_true xs0 xs1 xs2 m0 m1 m2)).plain.calls (fun _ => True) W [v0, v1, v2] ⟨hd0, hd1, hd2, trivial⟩
  refine Calls.mono call (fun e W2 ⟨v, he, hv, bel⟩ => ?_)
  subst he; subst hv
  exact ⟨_, rfl, _, _, _, [], _, [], hW1, trodAll_mk1 (shut_bool Tryz.underlying4 _), trodAll_cons_mk (Below.trod Go.Am.laidOut (by kernel_rfl) (of_decide_eq_true (by kernel_rfl)) k0 bel lt0) (trodAll_cons_mk (Below.trod Go.Am.laidOut (by kernel_rfl) (of_decide_eq_true (by kernel_rfl)) k1 bel lt1) (trodAll_cons_mk (Below.trod Go.Am.laidOut (by kernel_rfl) (of_decide_eq_true (by kernel_rfl)) k2 bel lt2) (trodAll_mk0))), rfl, bel.frame _, fun h => by cases h⟩
theorem exactMats_inPlace : (Rows.exactMatsRow.inPlace == Tryz.prog.inPlace 14) = true := by kernel_rfl
theorem exactMats_unfollowed : (Rows.exactMatsRow.unfollowed == Tryz.prog.unfollowed 14) = true := by kernel_rfl
theorem exactMats_recurses : (Rows.exactMatsRow.recurses == Tryz.prog.recurses 14) = true := by kernel_rfl
theorem exactMats_named : (Rows.exactMatsRow.named == Tryz.prog.varsNamed 14) = true := by kernel_rfl
theorem exactMats_keys : (Rows.exactMatsRow.plainKeys == Tryz.prog.plainKeys) = true := by kernel_rfl
theorem exactMats_goes : false = Rows.exactMatsRow.goesBy Tryz.prog := by kernel_rfl
theorem exactMats_closed : joinedFacts Tryz.prog 14 Tryz.f14 Rows.exactMatsSpec Rows.exactMatsRow = true := by
  unfold joinedFacts
  rw [show laidOutB Tryz.prog = true from Go.Am.laidOut, show mapsRowed Tryz.prog = true from Go.Am.mapsRow, exactMats_inPlace, exactMats_unfollowed, exactMats_recurses, exactMats_named, exactMats_keys]
  kernel_rfl
theorem exactMats_row : Rows.ExactMatsSaid :=
  OpenClaim.holds_of_wide 14 Tryz.f14 rfl rfl rfl rfl rfl rfl rfl ⟨rfl, rfl, rfl, rfl, rfl⟩ rfl rfl rfl rfl rfl (by kernel_rfl) Tryz.func14 exactMats_closed
    (of_decide_eq_true (by kernel_rfl)) (by unfold Func.isWrapper; first | (rw [if_pos (by decide +kernel)]; kernel_rfl) | (rw [if_neg (by decide +kernel)]; exact ⟨rfl, rfl⟩))
    (fun os started H enc _ => exactMats_lifted os started H enc)
theorem exactMats_holds : Rows.ExactMatsCardSaid :=
  Claim7.holds_tied_plain_at .later [] [.data, .pinned] true (true, "8bda451d2dc9f473a89e44847a5b0bd84339d99a2acb6b2f94f1282031d25d93") false exactMats_row (fun _ h => by cases h) (by kernel_rfl) (fun _ h => by cases h) exactMats_row_tie rfl ⟨rfl, rfl⟩ Go.Am.mainIs rfl
    (fun f fn hf hfn => by
      obtain rfl : f = 14 := Option.some.inj ((show Tryz.prog.funcNamed "amble/amblelaw01.ExactMats" = some 14 by kernel_rfl).symm.trans hf) |>.symm
      obtain rfl : fn = Tryz.f14 := (Option.some.inj (Tryz.func14.symm.trans hfn)).symm
      exact ⟨Go.Am.looks0, fun j t ht => by
        rw [Tryz.params14] at ht
        have hm : t ∈ [129, 129, 67] := by simpa using Array.mem_of_getElem? ht
        have hall : ([129, 129, 67].all fun u => !Tryz.prog.wantsStandIn u) = true := by kernel_rfl
        exact (show Tryz.prog.wantsStandIn t = false by simpa using List.all_eq_true.1 hall t hm)⟩)
    exactMats_goes
end Go.Proofs.YtgnepgenefcnpaaGreatDoor
