/- ExactSolutions returns true for every input and leaves its arguments as they were: the given statement. Condition: the listed package variables hold what the program lays (the card ties them). -/
import Derived.Test.YtgnepgenefcnpaaGreatDoorCSolutions
import Derived.Test.YtgnepgenefcnpaaGreatDoorCards
import Derived.Test.YtgnepgenefcnpaaGreatDoorTie
import Derived.ProofKit
import Derived.OpenShut
import Derived.LaidMore
import Derived.Lay
import Derived.SevenTiedAt
import Derived.Stop.Joined
set_option linter.unusedVariables false
set_option linter.unusedSimpArgs false
namespace Go.Proofs.YtgnepgenefcnpaaGreatDoor
open Go.ChangeShapes Go.WideShapes Go.ChangeAt Go.RowKit
open Go.ChangeMaps (open_string shut_string)
set_option maxRecDepth 100000 in
theorem nt(os:Os)(started:os.Started)(H:Type)(enc:TypeId×Value->H):
  ReturnsInHanded {} Tryz.checked os 20 .any (fun w args=>(Rows.exactSolutionsSpec.pre enc Tryz.prog Tryz.f20 Rows.exactSolutionsRow.domain false w args/\laidMetH Tryz.prog Rows.exactSolutionsRow.laid w)/\sizedMet enc Tryz.prog Tryz.f20 (OpenSpec.ofChange Rows.exactSolutionsSpec) false w args)
   (Rows.exactSolutionsSpec.post enc Tryz.prog Tryz.f20 false true false false):=by
 refine returnsInHanded_of_change_and (C:=Tryz.checked) (X:=fun w _=>laidMetH Tryz.prog Rows.exactSolutionsRow.laid w) (fun _ _ _ hh h=>h.of_heap hh) Go.Am.G9 started (by kernel_rfl) Tryz.func20
  (ChangeSpec.witness_shaped (enc:=enc) (C:=Tryz.checked) (os:=os) (X:=fun w _=>laidMetH Tryz.prog Rows.exactSolutionsRow.laid w) false (World.laidAll Tryz.prog os Rows.exactSolutionsRow.laid) #[.slice none 0 0,.slice none 0 0,.slice none 0 0,.agg #[.int .i64 0,.int .i64 0,.int .u8 0]] 8 (World.laidAll_os _ _ _)
   (World.shaped_of_ZipB (by kernel_rfl) (by kernel_rfl)) (by kernel_rfl) (by kernel_rfl) (by kernel_rfl)
   (by rw[MakeChecks.laidMetH_plain _ _ _ (by kernel_rfl)];exact laidMet_laidAll _ (by kernel_rfl) (by kernel_rfl))) ?_
 intro W base args ds gs before hval0 hW hc hsz0 hL _
 have hsz:(DataW.weightsEach Tryz.prog (Tryz.f20.params.toList++Rows.exactSolutionsSpec.plain.varTypes Tryz.prog) (ds++gs)).all (·<=reachBytes)=true:=hsz0
 have hval:∀(j:Nat) t v,Tryz.f20.params[j]?=some t->args[j]?=some v->Value.okWide Tryz.prog W .any base t v:=hval0
 have hW1:=hW
 obtain⟨p,q,hA0,hV,rfl,hfz,hnd⟩:=hW
 have hA:DataW.TrodAll enc Tryz.prog W 0 (fun _=>true) true Tryz.f20.params.toList args.toList ds p:=hA0
 rw[Tryz.params20]at hA hval hsz
 obtain⟨v0,vs0,d0,ds0,p0,q0,hargs,rfl,rfl,h0,r0⟩:=trodAll_cons hA
 obtain⟨v1,vs1,d1,ds1,p1,q1,rfl,rfl,rfl,h1,r1⟩:=trodAll_cons r0
 obtain⟨v2,vs2,d2,ds2,p2,q2,rfl,rfl,rfl,h2,r2⟩:=trodAll_cons r1
 obtain⟨v3,vs3,d3,ds3,p3,q3,rfl,rfl,rfl,h3,r3⟩:=trodAll_cons r2
 obtain⟨rfl,rfl,rfl⟩:=trodAll_nil r3
 obtain rfl:args=#[v0,v1,v2,v3]:=by cases args;simp_all
 obtain⟨rfl,rfl⟩:=trodVars_none hV
 have k0:=h0
 have lt0:∀x∈p0,x.block<W.heap.size:=by obtain⟨m,hm⟩:=k0;exact DataW.trod_lt m _ _ _ hm
 obtain⟨xs0,m0,hd0⟩:=Go.Am.vT (hval 0 129 v0 rfl rfl) h0
 have k1:=h1
 have lt1:∀x∈p1,x.block<W.heap.size:=by obtain⟨m,hm⟩:=k1;exact DataW.trod_lt m _ _ _ hm
 obtain⟨xs1,m1,hd1⟩:=Go.Am.vT (hval 1 129 v1 rfl rfl) h1
 have k2:=h2
 have lt2:∀x∈p2,x.block<W.heap.size:=by obtain⟨m,hm⟩:=k2;exact DataW.trod_lt m _ _ _ hm
 obtain⟨xs2,m2,hd2⟩:=Go.Am.Bt (hval 2 67 v2 rfl rfl) h2
 have k3:=h3
 have lt3:∀x∈p3,x.block<W.heap.size:=by obtain⟨m,hm⟩:=k3;exact DataW.trod_lt m _ _ _ hm
 obtain⟨c3,rfl,n3,g3⟩:=Go.Am.EB Tryz.underlying43 (hval 3 43 v3 rfl rfl) h3
 obtain⟨x0,x1,x2,e3,⟨w3_0a,w3_0b,w3_0c⟩⟩:=Go.Am.tM g3
 have call:=(Go.Am.ph (Go.Am.ue xs0 xs1 xs2 x0 x1 x2 m0 m1 m2 w3_0a w3_0b w3_0c)).plain.calls (fun _=>True) W [v0,v1,v2,.agg c3] ⟨hd0,hd1,hd2,Go.Am.IN (l:=[(.i64,x0),(.i64,x1),(.u8,x2)]) e3,trivial⟩
 refine Calls.mono call (fun e W2 ⟨v,he,hv,pP⟩=>?_)
 subst he;subst hv
 exact⟨_,rfl,_,_,_,[],_,[],hW1,trodAll_mk1 (shut_bool Tryz.underlying4 _),trodAll_cons_mk (Below.trod Go.Am.laidOut (by kernel_rfl) (of_decide_eq_true (by kernel_rfl)) k0 pP lt0) (trodAll_cons_mk (Below.trod Go.Am.laidOut (by kernel_rfl) (of_decide_eq_true (by kernel_rfl)) k1 pP lt1) (trodAll_cons_mk (Below.trod Go.Am.laidOut (by kernel_rfl) (of_decide_eq_true (by kernel_rfl)) k2 pP lt2) (trodAll_cons_mk (Below.trod Go.Am.laidOut (by kernel_rfl) (of_decide_eq_true (by kernel_rfl)) k3 pP lt3) (trodAll_mk0)))),rfl,pP.frame _,fun h=>by cases h⟩
theorem mU:(Rows.exactSolutionsRow.inPlace==Tryz.prog.inPlace 20)=true:=by kernel_rfl
theorem lf:(Rows.exactSolutionsRow.unfollowed==Tryz.prog.unfollowed 20)=true:=by kernel_rfl
theorem mB:(Rows.exactSolutionsRow.recurses==Tryz.prog.recurses 20)=true:=by kernel_rfl
theorem nT:(Rows.exactSolutionsRow.named==Tryz.prog.varsNamed 20)=true:=by kernel_rfl
theorem oP:(Rows.exactSolutionsRow.plainKeys==Tryz.prog.plainKeys)=true:=by kernel_rfl
theorem oO:false=Rows.exactSolutionsRow.goesBy Tryz.prog:=by kernel_rfl
theorem nu:joinedFacts Tryz.prog 20 Tryz.f20 Rows.exactSolutionsSpec Rows.exactSolutionsRow=true:=by
 unfold joinedFacts
 rw[show laidOutB Tryz.prog=true from Go.Am.laidOut,show mapsRowed Tryz.prog=true from Go.Am.Fh,mU,lf,mB,nT,oP]
 kernel_rfl
theorem pd:Rows.ExactSolutionsSaid:=
 OpenClaim.holds_of_wide 20 Tryz.f20 rfl rfl rfl rfl rfl rfl rfl ⟨rfl,rfl,rfl,rfl,rfl⟩ rfl rfl rfl rfl rfl (by kernel_rfl) Tryz.func20 nu
  (of_decide_eq_true (by kernel_rfl)) (by unfold Func.isWrapper;first|(rw[if_pos (by decide+kernel)];kernel_rfl)|(rw[if_neg (by decide+kernel)];exact⟨rfl,rfl⟩))
  (fun os started H enc _=>nt os started H enc)
theorem exactSolutions_holds:Rows.ExactSolutionsCardSaid:=
 Claim7.holds_tied_plain_at .later [] [.data,.pinned] true (true,"8bda451d2dc9f473a89e44847a5b0bd84339d99a2acb6b2f94f1282031d25d93") false pd (fun _ h=>by cases h) (by kernel_rfl) (fun _ h=>by cases h) exactSolutions_row_tie rfl ⟨rfl,rfl⟩ Go.Am.mainIs rfl
  (fun f fn hf hfn=>by
   obtain rfl:f=20:=Option.some.inj ((show Tryz.prog.funcNamed "amble/amblelaw01.ExactSolutions"=some 20 by kernel_rfl).symm.trans hf)|>.symm
   obtain rfl:fn=Tryz.f20:=(Option.some.inj (Tryz.func20.symm.trans hfn)).symm
   exact⟨Go.Am.GI,fun j t ht=>by
    rw[Tryz.params20]at ht
    have hm:t∈[129,129,67,43]:=by simpa using Array.mem_of_getElem? ht
    have hall:([129,129,67,43].all fun u=> !Tryz.prog.wantsStandIn u)=true:=by kernel_rfl
    exact(show Tryz.prog.wantsStandIn t=false by simpa using List.all_eq_true.1 hall t hm)⟩)
  oO
end Go.Proofs.YtgnepgenefcnpaaGreatDoor
