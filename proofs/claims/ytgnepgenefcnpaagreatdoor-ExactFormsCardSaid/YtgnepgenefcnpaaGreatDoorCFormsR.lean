/- ExactForms returns true for every input and leaves its arguments as they were: the given statement. Condition: the listed package variables hold what the program lays (the card ties them). -/
import Derived.Test.YtgnepgenefcnpaaGreatDoorCForms
import Derived.Test.YtgnepgenefcnpaaGreatDoorCards
import Derived.Test.YtgnepgenefcnpaaGreatDoorTie
import Derived.ProofKit
import Derived.OpenShut
import Derived.LaidMore
import Derived.Lay
import Derived.SevenTiedAt
import Derived.Stop.Joined
set_option linter.unusedVariables false
set_option linter.unusedSimpArgs false
namespace Go.Proofs.YtgnepgenefcnpaaGreatDoor
open Go.ChangeShapes Go.WideShapes Go.ChangeAt Go.RowKit
open Go.ChangeMaps (open_string shut_string)
set_option maxRecDepth 100000 in
theorem nP(os:Os)(started:os.Started)(H:Type)(enc:TypeId×Value->H):
  ReturnsInHanded {} Tryz.checked os 18 .any (fun w args=>(Rows.exactFormsSpec.pre enc Tryz.prog Tryz.f18 Rows.exactFormsRow.domain false w args/\laidMetH Tryz.prog Rows.exactFormsRow.laid w)/\sizedMet enc Tryz.prog Tryz.f18 (OpenSpec.ofChange Rows.exactFormsSpec) false w args)
   (Rows.exactFormsSpec.post enc Tryz.prog Tryz.f18 false true false false):=by
 refine returnsInHanded_of_change_and (C:=Tryz.checked) (X:=fun w _=>laidMetH Tryz.prog Rows.exactFormsRow.laid w) (fun _ _ _ hh h=>h.of_heap hh) Go.Am.Dh started (by kernel_rfl) Tryz.func18
  (ChangeSpec.witness_shaped (enc:=enc) (C:=Tryz.checked) (os:=os) (X:=fun w _=>laidMetH Tryz.prog Rows.exactFormsRow.laid w) false (World.laidAll Tryz.prog os Rows.exactFormsRow.laid) #[.slice none 0 0] 8 (World.laidAll_os _ _ _)
   (World.shaped_of_ZipB (by kernel_rfl) (by kernel_rfl)) (by kernel_rfl) (by kernel_rfl) (by kernel_rfl)
   (by rw[MakeChecks.laidMetH_plain _ _ _ (by kernel_rfl)];exact laidMet_laidAll _ (by kernel_rfl) (by kernel_rfl))) ?_
 intro W base args ds gs before hval0 hW hc hsz0 hL _
 have hsz:(DataW.weightsEach Tryz.prog (Tryz.f18.params.toList++Rows.exactFormsSpec.plain.varTypes Tryz.prog) (ds++gs)).all (·<=reachBytes)=true:=hsz0
 have hval:∀(j:Nat) t v,Tryz.f18.params[j]?=some t->args[j]?=some v->Value.okWide Tryz.prog W .any base t v:=hval0
 have hW1:=hW
 obtain⟨p,q,hA0,hV,rfl,hfz,hnd⟩:=hW
 have hA:DataW.TrodAll enc Tryz.prog W 0 (fun _=>true) true Tryz.f18.params.toList args.toList ds p:=hA0
 rw[Tryz.params18]at hA hval hsz
 obtain⟨v0,vs0,d0,ds0,p0,q0,hargs,rfl,rfl,h0,r0⟩:=trodAll_cons hA
 obtain⟨rfl,rfl,rfl⟩:=trodAll_nil r0
 obtain rfl:args=#[v0]:=by cases args;simp_all
 obtain⟨rfl,rfl⟩:=trodVars_none hV
 have k0:=h0
 have lt0:∀x∈p0,x.block<W.heap.size:=by obtain⟨m,hm⟩:=k0;exact DataW.trod_lt m _ _ _ hm
 obtain⟨xs0,m0,hd0⟩:=Go.Am.yx (hval 0 129 v0 rfl rfl) h0
 have call:=(Go.Am.q_ (Go.Am.vB xs0 m0)).plain.calls (fun _=>True) W [v0] ⟨hd0,trivial⟩
 refine Calls.mono call (fun e W2 ⟨v,he,hv,oV⟩=>?_)
 subst he;subst hv
 exact⟨_,rfl,_,_,_,[],_,[],hW1,trodAll_mk1 (shut_bool Tryz.underlying4 _),trodAll_cons_mk (Below.trod Go.Am.laidOut (by kernel_rfl) (of_decide_eq_true (by kernel_rfl)) k0 oV lt0) (trodAll_mk0),rfl,oV.frame _,fun h=>by cases h⟩
theorem mV:(Rows.exactFormsRow.inPlace==Tryz.prog.inPlace 18)=true:=by kernel_rfl
theorem lg:(Rows.exactFormsRow.unfollowed==Tryz.prog.unfollowed 18)=true:=by kernel_rfl
theorem mK:(Rows.exactFormsRow.recurses==Tryz.prog.recurses 18)=true:=by kernel_rfl
theorem oL:(Rows.exactFormsRow.named==Tryz.prog.varsNamed 18)=true:=by kernel_rfl
theorem pg:(Rows.exactFormsRow.plainKeys==Tryz.prog.plainKeys)=true:=by kernel_rfl
theorem pn:false=Rows.exactFormsRow.goesBy Tryz.prog:=by kernel_rfl
theorem nT:joinedFacts Tryz.prog 18 Tryz.f18 Rows.exactFormsSpec Rows.exactFormsRow=true:=by
 unfold joinedFacts
 rw[show laidOutB Tryz.prog=true from Go.Am.laidOut,show mapsRowed Tryz.prog=true from Go.Am.A5,mV,lg,mK,oL,pg]
 kernel_rfl
theorem qI:Rows.ExactFormsSaid:=
 OpenClaim.holds_of_wide 18 Tryz.f18 rfl rfl rfl rfl rfl rfl rfl ⟨rfl,rfl,rfl,rfl,rfl⟩ rfl rfl rfl rfl rfl (by kernel_rfl) Tryz.func18 nT
  (of_decide_eq_true (by kernel_rfl)) (by unfold Func.isWrapper;first|(rw[if_pos (by decide+kernel)];kernel_rfl)|(rw[if_neg (by decide+kernel)];exact⟨rfl,rfl⟩))
  (fun os started H enc _=>nP os started H enc)
theorem exactForms_holds:Rows.ExactFormsCardSaid:=
 Claim7.holds_tied_plain_at .later [] [.data,.pinned] true (true,"8bda451d2dc9f473a89e44847a5b0bd84339d99a2acb6b2f94f1282031d25d93") false qI (fun _ h=>by cases h) (by kernel_rfl) (fun _ h=>by cases h) exactForms_row_tie rfl ⟨rfl,rfl⟩ Go.Am.mainIs rfl
  (fun f fn hf hfn=>by
   obtain rfl:f=18:=Option.some.inj ((show Tryz.prog.funcNamed "amble/amblelaw01.ExactForms"=some 18 by kernel_rfl).symm.trans hf)|>.symm
   obtain rfl:fn=Tryz.f18:=(Option.some.inj (Tryz.func18.symm.trans hfn)).symm
   exact⟨Go.Am.DG,fun j t ht=>by
    rw[Tryz.params18]at ht
    have hm:t∈[129]:=by simpa using Array.mem_of_getElem? ht
    have hall:([129].all fun u=> !Tryz.prog.wantsStandIn u)=true:=by kernel_rfl
    exact(show Tryz.prog.wantsStandIn t=false by simpa using List.all_eq_true.1 hall t hm)⟩)
  pn
end Go.Proofs.YtgnepgenefcnpaaGreatDoor
