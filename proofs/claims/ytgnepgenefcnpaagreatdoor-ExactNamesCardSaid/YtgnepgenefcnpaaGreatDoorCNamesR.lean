/- ExactNames returns true for every input and leaves its arguments as they were: the given statement. Condition: the listed package variables hold what the program lays (the card ties them). -/
import Derived.Test.YtgnepgenefcnpaaGreatDoorCNames
import Derived.Test.YtgnepgenefcnpaaGreatDoorCards
import Derived.Test.YtgnepgenefcnpaaGreatDoorTie
import Derived.ProofKit
import Derived.OpenShut
import Derived.LaidMore
import Derived.Lay
import Derived.SevenTiedAt
import Derived.Stop.Joined
set_option linter.unusedVariables false
set_option linter.unusedSimpArgs false
namespace Go.Proofs.YtgnepgenefcnpaaGreatDoor
open Go.ChangeShapes Go.WideShapes Go.ChangeAt Go.RowKit
open Go.ChangeMaps (open_string shut_string)
set_option maxRecDepth 100000 in
theorem nz(os:Os)(started:os.Started)(H:Type)(enc:TypeId×Value->H):
  ReturnsInHanded {} Tryz.checked os 21 .any (fun w args=>(Rows.exactNamesSpec.pre enc Tryz.prog Tryz.f21 Rows.exactNamesRow.domain false w args/\laidMetH Tryz.prog Rows.exactNamesRow.laid w)/\sizedMet enc Tryz.prog Tryz.f21 (OpenSpec.ofChange Rows.exactNamesSpec) false w args)
   (Rows.exactNamesSpec.post enc Tryz.prog Tryz.f21 false true false false):=by
 refine returnsInHanded_of_change_and (C:=Tryz.checked) (X:=fun w _=>laidMetH Tryz.prog Rows.exactNamesRow.laid w) (fun _ _ _ hh h=>h.of_heap hh) Go.Am.A_ started (by kernel_rfl) Tryz.func21
  (ChangeSpec.witness_shaped (enc:=enc) (C:=Tryz.checked) (os:=os) (X:=fun w _=>laidMetH Tryz.prog Rows.exactNamesRow.laid w) false (World.laidAll Tryz.prog os Rows.exactNamesRow.laid) #[] 8 (World.laidAll_os _ _ _)
   (World.shaped_of_ZipB (by kernel_rfl) (by kernel_rfl)) (by kernel_rfl) (by kernel_rfl) (by kernel_rfl)
   (by rw[MakeChecks.laidMetH_plain _ _ _ (by kernel_rfl)];exact laidMet_laidAll _ (by kernel_rfl) (by kernel_rfl))) ?_
 intro W base args ds gs before hval0 hW hc hsz0 hL _
 have hsz:(DataW.weightsEach Tryz.prog (Tryz.f21.params.toList++Rows.exactNamesSpec.plain.varTypes Tryz.prog) (ds++gs)).all (·<=reachBytes)=true:=hsz0
 have hval:∀(j:Nat) t v,Tryz.f21.params[j]?=some t->args[j]?=some v->Value.okWide Tryz.prog W .any base t v:=hval0
 have hW1:=hW
 obtain⟨p,q,hA0,hV,rfl,hfz,hnd⟩:=hW
 have hA:DataW.TrodAll enc Tryz.prog W 0 (fun _=>true) true Tryz.f21.params.toList args.toList ds p:=hA0
 rw[Tryz.params21]at hA hval hsz
 obtain⟨hargs,rfl,rfl⟩:=trodAll_nil hA
 obtain rfl:args=#[]:=by cases args;simp_all
 obtain⟨rfl,rfl⟩:=trodVars_none hV
 have call:=(Go.Am.pG (Go.Am.ui)).plain.calls (fun _=>True) W [] trivial
 refine Calls.mono call (fun e W2 ⟨v,he,hv,oL⟩=>?_)
 subst he;subst hv
 exact⟨_,rfl,_,_,_,[],_,[],hW1,trodAll_mk1 (shut_bool Tryz.underlying4 _),trodAll_mk0,rfl,oL.frame _,fun h=>by cases h⟩
theorem me:(Rows.exactNamesRow.inPlace==Tryz.prog.inPlace 21)=true:=by kernel_rfl
theorem kE:(Rows.exactNamesRow.unfollowed==Tryz.prog.unfollowed 21)=true:=by kernel_rfl
theorem l5:(Rows.exactNamesRow.recurses==Tryz.prog.recurses 21)=true:=by kernel_rfl
theorem nS:(Rows.exactNamesRow.named==Tryz.prog.varsNamed 21)=true:=by kernel_rfl
theorem oI:(Rows.exactNamesRow.plainKeys==Tryz.prog.plainKeys)=true:=by kernel_rfl
theorem oC:false=Rows.exactNamesRow.goesBy Tryz.prog:=by kernel_rfl
theorem nF:joinedFacts Tryz.prog 21 Tryz.f21 Rows.exactNamesSpec Rows.exactNamesRow=true:=by
 unfold joinedFacts
 rw[show laidOutB Tryz.prog=true from Go.Am.laidOut,show mapsRowed Tryz.prog=true from Go.Am.y4,me,kE,l5,nS,oI]
 kernel_rfl
theorem pr:Rows.ExactNamesSaid:=
 OpenClaim.holds_of_wide 21 Tryz.f21 rfl rfl rfl rfl rfl rfl rfl ⟨rfl,rfl,rfl,rfl,rfl⟩ rfl rfl rfl rfl rfl (by kernel_rfl) Tryz.func21 nF
  (of_decide_eq_true (by kernel_rfl)) (by unfold Func.isWrapper;first|(rw[if_pos (by decide+kernel)];kernel_rfl)|(rw[if_neg (by decide+kernel)];exact⟨rfl,rfl⟩))
  (fun os started H enc _=>nz os started H enc)
theorem exactNames_holds:Rows.ExactNamesCardSaid:=
 Claim7.holds_tied_plain_at .later [] [.data,.pinned] true (true,"8bda451d2dc9f473a89e44847a5b0bd84339d99a2acb6b2f94f1282031d25d93") false pr (fun _ h=>by cases h) (by kernel_rfl) (fun _ h=>by cases h) exactNames_row_tie rfl ⟨rfl,rfl⟩ Go.Am.mainIs rfl
  (fun f fn hf hfn=>by
   obtain rfl:f=21:=Option.some.inj ((show Tryz.prog.funcNamed "amble/amblelaw01.ExactNames"=some 21 by kernel_rfl).symm.trans hf)|>.symm
   obtain rfl:fn=Tryz.f21:=(Option.some.inj (Tryz.func21.symm.trans hfn)).symm
   exact⟨Go.Am.A8,fun j t ht=>by
    rw[Tryz.params21]at ht
    have hm:t∈[]:=by simpa using Array.mem_of_getElem? ht
    have hall:([].all fun u=> !Tryz.prog.wantsStandIn u)=true:=by kernel_rfl
    exact(show Tryz.prog.wantsStandIn t=false by simpa using List.all_eq_true.1 hall t hm)⟩)
  oC
end Go.Proofs.YtgnepgenefcnpaaGreatDoor
