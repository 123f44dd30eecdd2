/- ExactDets returns true for every input and leaves its arguments as they were: the given statement. Condition: the listed package variables hold what the program lays (the card ties them). -/
import Derived.Test.YtgnepgenefcnpaaGreatDoorCDets
import Derived.Test.YtgnepgenefcnpaaGreatDoorCards
import Derived.Test.YtgnepgenefcnpaaGreatDoorTie
import Derived.ProofKit
import Derived.OpenShut
import Derived.LaidMore
import Derived.Lay
import Derived.SevenTiedAt
import Derived.Stop.Joined
set_option linter.unusedVariables false
set_option linter.unusedSimpArgs false
namespace Go.Proofs.YtgnepgenefcnpaaGreatDoor
open Go.ChangeShapes Go.WideShapes Go.ChangeAt Go.RowKit
open Go.ChangeMaps (open_string shut_string)
set_option maxRecDepth 100000 in
theorem rn(os:Os)(started:os.Started)(H:Type)(enc:TypeId×Value->H):
  ReturnsInHanded {} Tryz.checked os 19 .any (fun w args=>(Rows.exactDetsSpec.pre enc Tryz.prog Tryz.f19 Rows.exactDetsRow.domain false w args/\laidMetH Tryz.prog Rows.exactDetsRow.laid w)/\sizedMet enc Tryz.prog Tryz.f19 (OpenSpec.ofChange Rows.exactDetsSpec) false w args)
   (Rows.exactDetsSpec.post enc Tryz.prog Tryz.f19 false true false false):=by
 refine returnsInHanded_of_change_and (C:=Tryz.checked) (X:=fun w _=>laidMetH Tryz.prog Rows.exactDetsRow.laid w) (fun _ _ _ hh h=>h.of_heap hh) Go.Am.Ig started (by kernel_rfl) Tryz.func19
  (ChangeSpec.witness_shaped (enc:=enc) (C:=Tryz.checked) (os:=os) (X:=fun w _=>laidMetH Tryz.prog Rows.exactDetsRow.laid w) false (World.laidAll Tryz.prog os Rows.exactDetsRow.laid) #[.slice none 0 0] 8 (World.laidAll_os _ _ _)
   (World.shaped_of_ZipB (by kernel_rfl) (by kernel_rfl)) (by kernel_rfl) (by kernel_rfl) (by kernel_rfl)
   (by rw[MakeChecks.laidMetH_plain _ _ _ (by kernel_rfl)];exact laidMet_laidAll _ (by kernel_rfl) (by kernel_rfl))) ?_
 intro W base args ds gs before hval0 hW hc hsz0 hL _
 have hsz:(DataW.weightsEach Tryz.prog (Tryz.f19.params.toList++Rows.exactDetsSpec.plain.varTypes Tryz.prog) (ds++gs)).all (·<=reachBytes)=true:=hsz0
 have hval:∀(j:Nat) t v,Tryz.f19.params[j]?=some t->args[j]?=some v->Value.okWide Tryz.prog W .any base t v:=hval0
 have hW1:=hW
 obtain⟨p,q,hA0,hV,rfl,hfz,hnd⟩:=hW
 have hA:DataW.TrodAll enc Tryz.prog W 0 (fun _=>true) true Tryz.f19.params.toList args.toList ds p:=hA0
 rw[Tryz.params19]at hA hval hsz
 obtain⟨v0,vs0,d0,ds0,p0,q0,hargs,rfl,rfl,h0,r0⟩:=trodAll_cons hA
 obtain⟨rfl,rfl,rfl⟩:=trodAll_nil r0
 obtain rfl:args=#[v0]:=by cases args;simp_all
 obtain⟨rfl,rfl⟩:=trodVars_none hV
 have k0:=h0
 have lt0:∀x∈p0,x.block<W.heap.size:=by obtain⟨m,hm⟩:=k0;exact DataW.trod_lt m _ _ _ hm
 obtain⟨xs0,m0,hd0⟩:=Go.Am.BB (hval 0 129 v0 rfl rfl) h0
 have call:=(Go.Am.vq (Go.Am.B9 xs0 m0)).plain.calls (fun _=>True) W [v0] ⟨hd0,trivial⟩
 refine Calls.mono call (fun e W2 ⟨v,he,hv,su⟩=>?_)
 subst he;subst hv
 exact⟨_,rfl,_,_,_,[],_,[],hW1,trodAll_mk1 (shut_bool Tryz.underlying4 _),trodAll_cons_mk (Below.trod Go.Am.laidOut (by kernel_rfl) (of_decide_eq_true (by kernel_rfl)) k0 su lt0) (trodAll_mk0),rfl,su.frame _,fun h=>by cases h⟩
theorem q5:(Rows.exactDetsRow.inPlace==Tryz.prog.inPlace 19)=true:=by kernel_rfl
theorem od:(Rows.exactDetsRow.unfollowed==Tryz.prog.unfollowed 19)=true:=by kernel_rfl
theorem pH:(Rows.exactDetsRow.recurses==Tryz.prog.recurses 19)=true:=by kernel_rfl
theorem sB:(Rows.exactDetsRow.named==Tryz.prog.varsNamed 19)=true:=by kernel_rfl
theorem tH:(Rows.exactDetsRow.plainKeys==Tryz.prog.plainKeys)=true:=by kernel_rfl
theorem uP:false=Rows.exactDetsRow.goesBy Tryz.prog:=by kernel_rfl
theorem rC:joinedFacts Tryz.prog 19 Tryz.f19 Rows.exactDetsSpec Rows.exactDetsRow=true:=by
 unfold joinedFacts
 rw[show laidOutB Tryz.prog=true from Go.Am.laidOut,show mapsRowed Tryz.prog=true from Go.Am.Gn,q5,od,pH,sB,tH]
 kernel_rfl
theorem vg:Rows.ExactDetsSaid:=
 OpenClaim.holds_of_wide 19 Tryz.f19 rfl rfl rfl rfl rfl rfl rfl ⟨rfl,rfl,rfl,rfl,rfl⟩ rfl rfl rfl rfl rfl (by kernel_rfl) Tryz.func19 rC
  (of_decide_eq_true (by kernel_rfl)) (by unfold Func.isWrapper;first|(rw[if_pos (by decide+kernel)];kernel_rfl)|(rw[if_neg (by decide+kernel)];exact⟨rfl,rfl⟩))
  (fun os started H enc _=>rn os started H enc)
theorem exactDets_holds:Rows.ExactDetsCardSaid:=
 Claim7.holds_tied_plain_at .later [] [.data,.pinned] true (true,"8bda451d2dc9f473a89e44847a5b0bd84339d99a2acb6b2f94f1282031d25d93") false vg (fun _ h=>by cases h) (by kernel_rfl) (fun _ h=>by cases h) exactDets_row_tie rfl ⟨rfl,rfl⟩ Go.Am.mainIs rfl
  (fun f fn hf hfn=>by
   obtain rfl:f=19:=Option.some.inj ((show Tryz.prog.funcNamed "amble/amblelaw01.ExactDets"=some 19 by kernel_rfl).symm.trans hf)|>.symm
   obtain rfl:fn=Tryz.f19:=(Option.some.inj (Tryz.func19.symm.trans hfn)).symm
   exact⟨Go.Am.HP,fun j t ht=>by
    rw[Tryz.params19]at ht
    have hm:t∈[129]:=by simpa using Array.mem_of_getElem? ht
    have hall:([129].all fun u=> !Tryz.prog.wantsStandIn u)=true:=by kernel_rfl
    exact(show Tryz.prog.wantsStandIn t=false by simpa using List.all_eq_true.1 hall t hm)⟩)
  uP
end Go.Proofs.YtgnepgenefcnpaaGreatDoor
