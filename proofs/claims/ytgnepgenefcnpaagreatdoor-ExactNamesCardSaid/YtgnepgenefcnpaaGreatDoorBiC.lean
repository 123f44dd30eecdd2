/- Part 3 of 5 of what the laws of layer 1 share: contracts of functions of the program, each for every argument of its description; no condition beyond it. -/
import Derived.Test.YtgnepgenefcnpaaGreatDoorBiB
import Derived.RangeFuncOwn
set_option linter.unusedVariables false
set_option linter.unusedSimpArgs false
namespace Go.Am
open Go.RowKit
set_option maxRecDepth 100000
noncomputable section
def gv(a1:List UInt8)(a2:List UInt8):Option Bool:=(if(decide ((a1.length:Int)>=(a2.length:Int)))=true then bC ((0:Int)<=(a2.length:Int)/\((a2.length:Int):Int)<=(a1.length:Int)) (some ((List.take (a2.length:Int).toNat a1)==a2))else some false)
theorem pQ{a1:List UInt8}{a2:List UInt8}{r5:Bool}(h:gv a1 a2=some r5):bb PP 238 [] [b_ a1,b_ a2] [] (D.bool r5):=by
 unfold gv at h;refine .of Go.Proofs.Tryz.func238 rfl (by kernel_rfl) rfl rfl rfl rfl rfl rfl (fun A w0 L b=>?_);show Ok PP _ [(0,b_ a1),(1,b_ a2)] [] _ _;refine .ak (.av rfl<|.nil) rfl ?_;by_cases c3:(decide ((a1.length:Int)>=(a2.length:Int)))=true
 ·replace h:=ab c3 h;obtain⟨k4,h⟩:=aG h;refine .ak (.mv rfl<|.sG rfl cI<|.mv rfl<|.sG rfl cI<|.cm rfl rfl rfl<|.mv rfl<|.gy c3<|.mv rfl<|.gy c3<|.mv rfl<|.gy c3<|.sG rfl cI<|.gy c3<|.CD rfl rfl cI k4.1 k4.2<|.gy c3<|.mv rfl<|.gy c3<|.Bm rfl rfl<|.an rfl c3 rfl<|.av rfl<|.nil) rfl ?_;cases h;refine .aF (fun _ _ hb=>hb) rfl (.t1 (.tmp rfl)) (.refl _) trivial trivial
 ·replace h:=ae c3 h;refine .ak (.mv rfl<|.sG rfl cI<|.mv rfl<|.sG rfl cI<|.cm rfl rfl rfl<|.mv rfl<|.gm c3<|.gm c3<|.gm c3<|.gm c3<|.gm c3<|.gm c3<|.al rfl c3 rfl<|.av rfl<|.nil) rfl ?_;cases h;refine .aF (fun _ _ hb=>hb) rfl (.t1 (.tmp rfl)) (.refl _) trivial trivial
def gq(a1:List UInt8)(a2:List UInt8):Option ((List UInt8)×Bool):=(gv a1 a2).bind fun v3=>(if(!v3)=true then some (a1,false)else bC ((0:Int)<=(a2.length:Int)/\((a2.length:Int):Int)<=(a1.length:Int)) (some ((List.drop (a2.length:Int).toNat a1),true)))
theorem pX{a1:List UInt8}{a2:List UInt8}{r7:List UInt8}{r8:Bool}(h:gq a1 a2=some (r7,r8)):bb PP 209 [] [b_ a1,b_ a2] [] (D.fA [b_ r7,D.bool r8]):=by
 unfold gq at h;refine .of Go.Proofs.Tryz.func209 rfl (by kernel_rfl) rfl rfl rfl rfl rfl rfl (fun A w0 L b=>?_);show Ok PP _ [(0,b_ a1),(1,b_ a2)] [] _ _;refine .ak (.av rfl<|.av rfl<|.nil) rfl ?_;refine .sq ?_;obtain⟨v3,e4,h⟩:=bind_some h;refine .ak (.mv rfl<|.mv rfl<|.af (pQ e4) ⟨rfl,rfl,trivial⟩ trivial trivial<|.not rfl<|.nil) rfl ?_;by_cases c5:(!v3)=true
 ·replace h:=ab c5 h;refine .bT rfl c5 ?_;refine .ak (.mv rfl<|.av rfl<|.av rfl<|.nil) rfl ?_;cases h;refine .aF (fun _ _ hb=>hb) rfl (.cons (.tmp rfl) (.t1 (.tmp rfl))) (.refl _) trivial trivial
 ·replace h:=ae c5 h;refine .cC rfl c5 ?_;refine .skip (Ok.on ?_);obtain⟨k6,h⟩:=aG h;refine .ak (.mv rfl<|.mv rfl<|.sG rfl cI<|.CS rfl rfl cI k6.1 k6.2<|.av rfl<|.av rfl<|.nil) rfl ?_;cases h;refine .aF (fun _ _ hb=>hb) rfl (.cons (.tmp rfl) (.t1 (.tmp rfl))) (.refl _) trivial trivial
def fJ(a1:List UInt8)(a2:List UInt8):Option ((List UInt8)×Bool):=(gq a1 a2).bind fun(v3,v4)=>some (v3,v4)
theorem qQ{a1:List UInt8}{a2:List UInt8}{r6:List UInt8}{r7:Bool}(h:fJ a1 a2=some (r6,r7)):bb PP 144 [] [b_ a1,b_ a2] [] (D.fA [b_ r6,D.bool r7]):=by
 unfold fJ at h;refine .of Go.Proofs.Tryz.func144 rfl (by kernel_rfl) rfl rfl rfl rfl rfl rfl (fun A w0 L b=>?_);show Ok PP _ [(0,b_ a1),(1,b_ a2)] [] _ _;refine .ak (.av rfl<|.av rfl<|.nil) rfl ?_;obtain⟨⟨v3,v4⟩,e5,h⟩:=bind_some h;refine .ak (.mv rfl<|.mv rfl<|.af (pX e5) ⟨rfl,rfl,trivial⟩ trivial trivial<|.ext rfl rfl<|.ext rfl rfl<|.av rfl<|.av rfl<|.nil) rfl ?_;cases h;refine .aF (fun _ _ hb=>hb) rfl (.cons (.tmp rfl) (.t1 (.tmp rfl))) (.refl _) trivial trivial
def m5(a1:List UInt8)(a2:List UInt8):Option ((List UInt8)×(List UInt8)×Bool):=(sv a1 a2).bind fun v3=>(if(decide (v3>=0))=true then bC ((0:Int)<=v3/\(v3:Int)<=(a1.length:Int)) (bC ((0:Int)<=(IntKind.i64.wrap (v3+(a2.length:Int)))/\((IntKind.i64.wrap (v3+(a2.length:Int))):Int)<=(a1.length:Int)) (some ((List.take v3.toNat a1),(List.drop (IntKind.i64.wrap (v3+(a2.length:Int))).toNat a1),true)))else some (a1,([]:List UInt8),false))
theorem yx{a1:List UInt8}{a2:List UInt8}{r8:List UInt8}{r9:List UInt8}{r10:Bool}(h:m5 a1 a2=some (r8,r9,r10)):bb PP 211 [] [b_ a1,b_ a2] [] (D.fA [b_ r8,b_ r9,D.bool r10]):=by
 unfold m5 at h;refine .of Go.Proofs.Tryz.func211 rfl (by kernel_rfl) rfl rfl rfl rfl rfl rfl (fun A w0 L b=>?_);show Ok PP _ [(0,b_ a1),(1,b_ a2)] [] _ _;refine .ak (.av rfl<|.av rfl<|.av rfl<|.nil) rfl ?_;refine .sq ?_;obtain⟨v3,e4,h⟩:=bind_some h;refine .ak (.mv rfl<|.mv rfl<|.af (zn e4) ⟨rfl,rfl,trivial⟩ trivial trivial<|.av rfl<|.nil) rfl ?_;refine .ak (.mv rfl<|.cm rfl rfl rfl<|.nil) rfl ?_;by_cases c5:(decide (v3>=0))=true
 ·replace h:=ab c5 h;refine .bT rfl c5 ?_;obtain⟨k6,h⟩:=aG h;obtain⟨k7,h⟩:=aG h;refine .cn bP (.mv rfl<|.mv rfl<|.CD rfl rfl cI k6.1 k6.2<|.mv rfl<|.mv rfl<|.mv rfl<|.sG rfl cI<|.ar rfl rfl rfl<|.CS rfl rfl cI k7.1 k7.2<|.av rfl<|.av rfl<|.av rfl<|.nil) rfl (by kernel_rfl) ?_;cases h;refine .aF (fun _ _ hb=>hb) rfl (.cons (.tmp rfl) (.cons (.tmp rfl) (.t1 (.tmp rfl)))) (.refl _) trivial trivial
 ·replace h:=ae c5 h;refine .cC rfl c5 ?_;refine .skip (Ok.on ?_);refine .ak (.mv rfl<|.av rfl<|.av rfl<|.av rfl<|.nil) rfl ?_;cases h;refine .aF (fun _ _ hb=>hb) rfl (.cons (.tmp rfl) (.cons (.tmp rfl) (.t1 (.tmp rfl)))) (.refl _) trivial trivial
def jx(a1:List UInt8)(a2:List UInt8):Option ((List UInt8)×(List UInt8)×Bool):=(m5 a1 a2).bind fun(v3,v4,v5)=>some (v3,v4,v5)
theorem vK{a1:List UInt8}{a2:List UInt8}{r7:List UInt8}{r8:List UInt8}{r9:Bool}(h:jx a1 a2=some (r7,r8,r9)):bb PP 146 [] [b_ a1,b_ a2] [] (D.fA [b_ r7,b_ r8,D.bool r9]):=by
 unfold jx at h;refine .of Go.Proofs.Tryz.func146 rfl (by kernel_rfl) rfl rfl rfl rfl rfl rfl (fun A w0 L b=>?_);show Ok PP _ [(0,b_ a1),(1,b_ a2)] [] _ _;refine .ak (.av rfl<|.av rfl<|.av rfl<|.nil) rfl ?_;obtain⟨⟨v3,v4,v5⟩,e6,h⟩:=bind_some h;refine .ak (.mv rfl<|.mv rfl<|.af (yx e6) ⟨rfl,rfl,trivial⟩ trivial trivial<|.ext rfl rfl<|.ext rfl rfl<|.ext rfl rfl<|.av rfl<|.av rfl<|.av rfl<|.nil) rfl ?_;cases h;refine .aF (fun _ _ hb=>hb) rfl (.cons (.tmp rfl) (.cons (.tmp rfl) (.t1 (.tmp rfl)))) (.refl _) trivial trivial
def ju(a1:List UInt8):Option Bool:=(if(!(a1==([]:List UInt8)))=true then(ua a1 ([48,49,50,51,52,53,54,55,56,57]:List UInt8)).bind fun v3=>some (v3==([]:List UInt8))else some false)
theorem nu{a1:List UInt8}{r5:Bool}(h:ju a1=some r5):bb PP 149 [] [b_ a1] [] (D.bool r5):=by
 unfold ju at h;refine .of Go.Proofs.Tryz.func149 rfl (by kernel_rfl) rfl rfl rfl rfl rfl rfl (fun A w0 L b=>?_);show Ok PP _ [(0,b_ a1)] [] _ _;refine .ak (.av rfl<|.nil) rfl ?_;by_cases c2:(!(a1==([]:List UInt8)))=true
 ·replace h:=ab c2 h;obtain⟨v3,e4,h⟩:=bind_some h;refine .ak (.mv rfl<|.CQ rfl rfl<|.mv rfl<|.gy c2<|.mv rfl<|.gy c2<|.af (AF e4) ⟨rfl,rfl,trivial⟩ trivial trivial<|.gy c2<|.Bm rfl rfl<|.an rfl c2 rfl<|.av rfl<|.nil) rfl ?_;cases h;refine .aF (fun _ _ hb=>hb) rfl (.t1 (.tmp rfl)) (.refl _) trivial trivial
 ·replace h:=ae c2 h;refine .ak (.mv rfl<|.CQ rfl rfl<|.mv rfl<|.gm c2<|.gm c2<|.gm c2<|.al rfl c2 rfl<|.av rfl<|.nil) rfl ?_;cases h;refine .aF (fun _ _ hb=>hb) rfl (.t1 (.tmp rfl)) (.refl _) trivial trivial
def il(a1:List UInt8):Option Bool:=(ju a1).bind fun v2=>(if v2=true then(if(a1==([48]:List UInt8))=true then some true else(ix a1 0).bind fun v6=>some ((v6.toNat:Int) !=48))else some false)
theorem lT{a1:List UInt8}{r8:Bool}(h:il a1=some r8):bb PP 147 [] [b_ a1] [] (D.bool r8):=by
 unfold il at h;refine .of Go.Proofs.Tryz.func147 rfl (by kernel_rfl) rfl rfl rfl rfl rfl rfl (fun A w0 L b=>?_);show Ok PP _ [(0,b_ a1)] [] _ _;refine .ak (.av rfl<|.nil) rfl ?_;obtain⟨v2,e3,h⟩:=bind_some h;by_cases c4:v2=true
 ·replace h:=ab c4 h;by_cases c5:(a1==([48]:List UInt8))=true
  ·replace h:=ab c5 h;refine .ak (.mv rfl<|.af (nu e3) ⟨rfl,trivial⟩ trivial trivial<|.mv rfl<|.gy c4<|.mv rfl<|.gy c4<|.Bm rfl rfl<|.gy c4<|.mv rfl<|.gk c5<|.gk c5<|.gk c5<|.gy c4<|.an rfl c5 rfl<|.an rfl c4 rfl<|.av rfl<|.nil) rfl ?_;cases h;refine .aF (fun _ _ hb=>hb) rfl (.t1 (.tmp rfl)) (.refl _) trivial trivial
  ·replace h:=ae c5 h;obtain⟨v6,e7,h⟩:=bind_some h;refine .ak (.mv rfl<|.af (nu e3) ⟨rfl,trivial⟩ trivial trivial<|.mv rfl<|.gy c4<|.mv rfl<|.gy c4<|.Bm rfl rfl<|.gy c4<|.mv rfl<|.gz c5<|.mv rfl<|.gz c5<|.C1 rfl rfl cI (ag e7).1 (ag e7).2<|.gz c5<|.cm rfl rfl rfl<|.gy c4<|.al rfl c5 rfl<|.an rfl c4 rfl<|.av rfl<|.nil) rfl ?_;cases h;refine .aF (fun _ _ hb=>hb) rfl (.t1 (.tmp rfl)) (.refl _) trivial trivial
 ·replace h:=ae c4 h;refine .ak (.mv rfl<|.af (nu e3) ⟨rfl,trivial⟩ trivial trivial<|.mv rfl<|.gm c4<|.gm c4<|.gm c4<|.gu<|.gu<|.gu<|.gm c4<|.al rfl c4 rfl<|.av rfl<|.nil) rfl ?_;cases h;refine .aF (fun _ _ hb=>hb) rfl (.t1 (.tmp rfl)) (.refl _) trivial trivial
def fU(v27:List UInt8)(v42:Nat)(v43:Int):Option (St (Nat×Int) Nat):=(if(decide (v43<(v27.length:Int)))=true then(jJ 10).bind fun v49=>(lz v42 v49).bind fun v51=>some (St.next (v51,(IntKind.i64.wrap (v43+1))))else some (St.done v42))
def oT(a1:List UInt8):Option (((Bool×Nat)×Nat)×Int):=(if(decide ((a1.length:Int)>1000))=true then some (((false,0),0),5)else(fJ a1 ([45]:List UInt8)).bind fun(v3,v4)=>(jJ 1).bind fun v6=>((jx v3 ([47]:List UInt8)).bind fun(v10,v11,v12)=>(if v12=true then(il v10).bind fun v15=>(if(!v15)=true then some (Ex.ret (((false,0),0),4))else(il v11).bind fun v18=>(if(!v18)=true then some (Ex.ret (((false,0),0),4))else(kS v10).bind fun v21=>(kS v11).bind fun v23=>(if(((aD v23).length:Int)==0)=true then some (Ex.ret (((false,0),0),9))else some (Ex.cy (v21,v23)))))else(jx v3 ([46]:List UInt8)).bind fun(v26,v27,v28)=>((il v26).bind fun v32=>(if(!v32)=true then some (Ex.ret (((false,0),0),4))else(if v28=true then(ju v27).bind fun v36=>(if(!v36)=true then some (Ex.ret (((false,0),0),4))else some (Ex.cy ()))else some (Ex.cy ())))).bind fun o30=>(match o30 with|Ex.cy ()=>bC (v26.length+v27.length<=9223372036854775807) ((kS (v26++v27)).bind fun v40=>(Loop (fun(s:Nat×Int)=>fU v27 s.1 s.2) (v6,0)).bind fun v53=>some (Ex.cy (v40,v53)))|Ex.ret (((r54,r55),r56),r57)=>some (Ex.ret (((r54,r55),r56),r57))))).bind fun o8=>(match o8 with|Ex.cy (v58,v59)=>(cr v4 v58).bind fun(v60,v61)=>(dD v60 v61 v59).bind fun((v63,v64),v65)=>some (((v63,v64),v65),0)|Ex.ret (((r67,r68),r69),r70)=>some (((r67,r68),r69),r70)))
theorem zJ{a1:List UInt8}{r71:Bool}{r72:Nat}{r73:Nat}{r74:Int}(h:oT a1=some (((r71,r72),r73),r74)):bb PP 23 [] [b_ a1] [] (D.fA [D.agg ([D.bool r71,ah r72,ah r73]),D.int .i64 r74]):=by
 unfold oT at h;refine .of Go.Proofs.Tryz.func23 rfl (by kernel_rfl) rfl rfl rfl rfl rfl rfl (fun A w0 L b=>?_);show Ok PP _ [(0,b_ a1)] [] _ _;refine .ak (.eZ ([D.bool false,ah 0,ah 0]) ay ⟨.refl _,aM,aM,trivial⟩ rfl<|.av rfl<|.nil) rfl ?_;refine .sq ?_;refine .ak (.mv rfl<|.sG rfl cI<|.cm rfl rfl rfl<|.nil) rfl ?_;by_cases c2:(decide ((a1.length:Int)>1000))=true
 ·replace h:=ab c2 h;refine .bT rfl c2 ?_;refine .ak (.jb ([D.bool false,ah 0,ah 0]) [] ay bw trivial trivial ⟨.refl _,aM,aM,trivial⟩<|.cc ([D.bool false,ah 0,ah 0]) rfl rfl rfl aa rfl rfl rfl<|.av rfl<|.nil) rfl ?_;cases h;refine .aF (fun _ _ hb=>hb) rfl (.cons (.agg rfl rfl aa rfl) (.t1 (.tmp rfl))) (.refl _) trivial trivial
 ·replace h:=ae c2 h;refine .cC rfl c2 ?_;refine .skip (Ok.on ?_);obtain⟨⟨v3,v4⟩,e5,h⟩:=bind_some h;refine .ak (.mv rfl<|.af (qQ e5) ⟨rfl,rfl,trivial⟩ trivial trivial<|.mv rfl<|.ext rfl rfl<|.ext rfl rfl<|.av rfl<|.av rfl<|.nil) rfl ?_;obtain⟨v6,e7,h⟩:=bind_some h;refine .ak (.af (oF e7) ⟨rfl,trivial⟩ trivial trivial<|.av rfl<|.av rfl<|.nil) rfl ?_;obtain⟨o8,hp9,h⟩:=bind_some h;refine .du (fun i=>o8=Ex.cy i) (fun(i:Nat×Nat)=>[(2,D.ref 2 0),(4,D.bool v4),(5,ah i.1),(6,ah i.2)]) (fun(i:Nat×Nat)=>[(2,Hp.box 28 ([D.bool false,ah 0,ah 0]))]) ?_ ?_
  ·have ho1:=h;have h:=hp9;obtain⟨⟨v10,v11,v12⟩,e13,h⟩:=bind_some h;refine .ak (.mv rfl<|.af (vK e13) ⟨rfl,rfl,trivial⟩ trivial trivial<|.mv rfl<|.ext rfl rfl<|.ext rfl rfl<|.ext rfl rfl<|.av rfl<|.av rfl<|.av rfl<|.nil) rfl ?_;refine .ak (.mv rfl<|.nil) rfl ?_;by_cases c14:v12=true
   ·replace h:=ab c14 h;refine .bT rfl c14 ?_;refine .sq ?_;obtain⟨v15,e16,h⟩:=bind_some h;by_cases c17:(!v15)=true
    ·replace h:=ab c17 h;refine .ak (.mv rfl<|.af (lT e16) ⟨rfl,trivial⟩ trivial trivial<|.not rfl<|.mv rfl<|.gk c17<|.gk c17<|.gk c17<|.an rfl c17 rfl<|.nil) rfl ?_;refine .bT rfl rfl ?_;refine .ak (.jb ([D.bool false,ah 0,ah 0]) [] ay bw trivial trivial ⟨.refl _,aM,aM,trivial⟩<|.cc ([D.bool false,ah 0,ah 0]) rfl rfl rfl aa rfl rfl rfl<|.av rfl<|.nil) rfl ?_;cases h;have h:=ho1;cases h;refine .aF (fun _ _ hb=>hb) rfl (.cons (.agg rfl rfl aa rfl) (.t1 (.tmp rfl))) (.refl _) trivial trivial
    ·replace h:=ae c17 h;obtain⟨v18,e19,h⟩:=bind_some h;refine .ak (.mv rfl<|.af (lT e16) ⟨rfl,trivial⟩ trivial trivial<|.not rfl<|.mv rfl<|.gz c17<|.mv rfl<|.gz c17<|.af (lT e19) ⟨rfl,trivial⟩ trivial trivial<|.gz c17<|.not rfl<|.al rfl c17 rfl<|.nil) rfl ?_;by_cases c20:(!v18)=true
     ·replace h:=ab c20 h;refine .bT rfl c20 ?_;refine .ak (.jb ([D.bool false,ah 0,ah 0]) [] ay bw trivial trivial ⟨.refl _,aM,aM,trivial⟩<|.cc ([D.bool false,ah 0,ah 0]) rfl rfl rfl aa rfl rfl rfl<|.av rfl<|.nil) rfl ?_;cases h;have h:=ho1;cases h;refine .aF (fun _ _ hb=>hb) rfl (.cons (.agg rfl rfl aa rfl) (.t1 (.tmp rfl))) (.refl _) trivial trivial
     ·replace h:=ae c20 h;refine .cC rfl c20 ?_;refine .skip (Ok.on ?_);obtain⟨v21,e22,h⟩:=bind_some h;obtain⟨v23,e24,h⟩:=bind_some h;refine .ak (.mv rfl<|.af (uG e22) ⟨rfl,trivial⟩ trivial trivial<|.mv rfl<|.af (uG e24) ⟨rfl,trivial⟩ trivial trivial<|.av rfl<|.av rfl<|.nil) rfl ?_;refine .ak (.mv rfl<|.qF rfl au<|.cm rfl rfl rfl<|.nil) rfl ?_;by_cases c25:(((aD v23).length:Int)==0)=true
      ·replace h:=ab c25 h;refine .bT rfl c25 ?_;refine .ak (.jb ([D.bool false,ah 0,ah 0]) [] ay bw trivial trivial ⟨.refl _,aM,aM,trivial⟩<|.cc ([D.bool false,ah 0,ah 0]) rfl rfl rfl aa rfl rfl rfl<|.av rfl<|.nil) rfl ?_;cases h;have h:=ho1;cases h;refine .aF (fun _ _ hb=>hb) rfl (.cons (.agg rfl rfl aa rfl) (.t1 (.tmp rfl))) (.refl _) trivial trivial
      ·replace h:=ae c25 h;refine .cC rfl c25 ?_;refine .skip (fun _ _ hs=>⟨(v21,v23),(sj h),hs.sub (.of rfl) (.of rfl) rfl rfl⟩)
   ·replace h:=ae c14 h;refine .cC rfl c14 ?_;obtain⟨⟨v26,v27,v28⟩,e29,h⟩:=bind_some h;refine .ak (.mv rfl<|.af (vK e29) ⟨rfl,rfl,trivial⟩ trivial trivial<|.mv rfl<|.ext rfl rfl<|.ext rfl rfl<|.ext rfl rfl<|.av rfl<|.av rfl<|.av rfl<|.nil) rfl ?_;obtain⟨o30,hp31,h⟩:=bind_some h;refine .du (fun i=>o30=Ex.cy i) (fun(i:Unit)=>[(2,D.ref 2 0),(4,D.bool v4),(6,ah v6),(10,b_ v26),(11,b_ v27)]) (fun(i:Unit)=>[(2,Hp.box 28 ([D.bool false,ah 0,ah 0]))]) ?_ ?_
    ·have ho2:=h;have h:=hp31;obtain⟨v32,e33,h⟩:=bind_some h;by_cases c34:(!v32)=true
     ·replace h:=ab c34 h;refine .ak (.mv rfl<|.af (lT e33) ⟨rfl,trivial⟩ trivial trivial<|.not rfl<|.mv rfl<|.gk c34<|.gk c34<|.gu<|.gu<|.gu<|.gk c34<|.an rfl c34 rfl<|.nil) rfl ?_;refine .bT rfl rfl ?_;refine .ak (.jb ([D.bool false,ah 0,ah 0]) [] ay bw trivial trivial ⟨.refl _,aM,aM,trivial⟩<|.cc ([D.bool false,ah 0,ah 0]) rfl rfl rfl aa rfl rfl rfl<|.av rfl<|.nil) rfl ?_;cases h;have h:=ho2;cases h;have h:=ho1;cases h;refine .aF (fun _ _ hb=>hb) rfl (.cons (.agg rfl rfl aa rfl) (.t1 (.tmp rfl))) (.refl _) trivial trivial
     ·replace h:=ae c34 h;by_cases c35:v28=true
      ·replace h:=ab c35 h;obtain⟨v36,e37,h⟩:=bind_some h;refine .ak (.mv rfl<|.af (lT e33) ⟨rfl,trivial⟩ trivial trivial<|.not rfl<|.mv rfl<|.gz c34<|.mv rfl<|.gz c34<|.mv rfl<|.gy c35<|.mv rfl<|.gy c35<|.af (nu e37) ⟨rfl,trivial⟩ trivial trivial<|.gy c35<|.not rfl<|.gz c34<|.an rfl c35 rfl<|.al rfl c34 rfl<|.nil) rfl ?_;by_cases c38:(!v36)=true
       ·replace h:=ab c38 h;refine .bT rfl c38 ?_;refine .ak (.jb ([D.bool false,ah 0,ah 0]) [] ay bw trivial trivial ⟨.refl _,aM,aM,trivial⟩<|.cc ([D.bool false,ah 0,ah 0]) rfl rfl rfl aa rfl rfl rfl<|.av rfl<|.nil) rfl ?_;cases h;have h:=ho2;cases h;have h:=ho1;cases h;refine .aF (fun _ _ hb=>hb) rfl (.cons (.agg rfl rfl aa rfl) (.t1 (.tmp rfl))) (.refl _) trivial trivial
       ·replace h:=ae c38 h;refine .cC rfl c38 ?_;refine .skip (fun _ _ hs=>⟨(),(sj h),hs.sub (.of rfl) (.of rfl) rfl rfl⟩)
      ·replace h:=ae c35 h;refine .ak (.mv rfl<|.af (lT e33) ⟨rfl,trivial⟩ trivial trivial<|.not rfl<|.mv rfl<|.gz c34<|.mv rfl<|.gz c34<|.mv rfl<|.gm c35<|.gm c35<|.gm c35<|.gz c34<|.al rfl c35 rfl<|.al rfl c34 rfl<|.nil) rfl ?_;refine .cC rfl (by decide) ?_;refine .skip (fun _ _ hs=>⟨(),(sj h),hs.sub (.of rfl) (.of rfl) rfl rfl⟩)
    ·rintro⟨⟩ rfl
     try dsimp only
     obtain⟨k39,h⟩:=aG h;obtain⟨v40,e41,h⟩:=bind_some h;refine .ak (.mv rfl<|.mv rfl<|.zC rfl rfl k39<|.af (uG e41) ⟨rfl,trivial⟩ trivial trivial<|.av rfl<|.nil) rfl ?_;refine .ak (.mv rfl<|.sG rfl cI<|.mv rfl<|.nil) rfl ?_;obtain⟨o44,hl45,h⟩:=bind_some h;have ho2:=h;refine .block (.cY (fun(s:Nat×Int)=>[(2,D.ref 2 0),(4,D.bool v4),(5,ah v40),(6,ah s.1),(70,D.int .i64 (v27.length:Int)),(71,D.int .i64 s.2)]) (fun(s:Nat×Int)=>[(2,Hp.box 28 ([D.bool false,ah 0,ah 0]))]) hl45 (.of rfl) (.of rfl) rfl rfl ?_);rintro⟨v42,v43⟩ st46 hb47;have h:fU v27 v42 v43=some st46:=hb47;unfold fU at h
     try dsimp only
     refine .ak (.cm rfl rfl rfl<|.nil) rfl ?_;refine .sq ?_;by_cases c48:(decide (v43<(v27.length:Int)))=true
     ·replace h:=ab c48 h;refine .bT rfl c48 ?_;refine .skip (Ok.on ?_);refine .sq ?_;refine .block ?_;obtain⟨v49,e50,h⟩:=bind_some h;obtain⟨v51,e52,h⟩:=bind_some h;refine .region (.mv rfl<|.af (oF e50) ⟨rfl,trivial⟩ trivial trivial<|.af (mb e52) ⟨rfl,rfl,trivial⟩ trivial trivial<|.av rfl<|.nil) rfl (Ok.on ?_);refine .region (.ar rfl rfl rfl<|.mv rfl<|.nil) rfl (fun _ _ hs=>⟨(v51,(IntKind.i64.wrap (v43+1))),(sj h),hs.sub (.of rfl) (.of rfl) rfl rfl⟩)
     ·replace h:=ae c48 h;refine .cC rfl c48 ?_;refine .exit (fun a w hs=>⟨_,(sj h),fun e=>by subst e;have h:=ho2;exact bD (⟨(v40,v42),(sj h),hs.sub (.of rfl) (.of rfl) rfl rfl⟩)⟩)
  ·rintro⟨v58,v59⟩ rfl
   try dsimp only
   obtain⟨⟨v60,v61⟩,e62,h⟩:=bind_some h;obtain⟨⟨⟨v63,v64⟩,v65⟩,e66,h⟩:=bind_some h;refine .ak (.mv rfl<|.mv rfl<|.af (dI e62) ⟨rfl,rfl,trivial⟩ trivial trivial<|.mv rfl<|.af (jq e66) ⟨rfl,rfl,trivial⟩ trivial trivial<|.cc ([D.bool v63,ah v64,ah v65]) rfl rfl rfl aa rfl rfl rfl<|.av rfl<|.nil) rfl ?_;cases h;refine .aF (fun _ _ hb=>hb) rfl (.cons (.agg rfl rfl aa rfl) (.t1 (.tmp rfl))) (.refl _) trivial trivial
end
end Go.Am
namespace Go.Am
open Go.RowKit
def tU(s:List UInt8):Bool:= !s.isEmpty&&s.all fun b=>decide (48<=b.toNat)&&decide (b.toNat<=57)
def qP(s:List UInt8):Bool:=tU s&&(s==[48]|| !(s.head?==some 48))
def ic(c:UInt8):List UInt8->List UInt8×List UInt8×Bool
 |[]=>([],[],false)
 |b::l=>if b=c then([],l,true)else(b::(ic c l).1,(ic c l).2.1,(ic c l).2.2)
theorem qf{s:List UInt8}(h:tU s=true):qH s/\s≠[]:=by
 unfold tU at h;rw[Bool.and_eq_true]at h;refine⟨fun b hb=>?_,fun e=>by rw[e]at h;simp at h⟩;have:=List.all_eq_true.1 h.2 b hb;simp only[Bool.and_eq_true,decide_eq_true_eq]at this;exact this
theorem qp(c:UInt8):∀l,(ic c l).1.length+(ic c l).2.1.length<=l.length
 |[]=>Nat.le_refl _
 |b::l=>by
  have:=qp c l;unfold ic
  split
  ·simp only[List.length_nil,List.length_cons];omega
  ·simp only[List.length_cons];omega
theorem tf(c:UInt8):∀l,(ic c l).2.2=false->ic c l=(l,[],false)
 |[],_=>rfl
 |b::l,h=>by
  unfold ic at h|-;by_cases e:b=c
  ·rw[if_pos e]at h;cases h
  ·rw[if_neg e]at h|-;rw[tf c l h]
theorem dropWhile_nil{α:Type}(p:α->Bool):∀(l:List α),l.dropWhile p=[]↔∀x∈l,p x=true
 |[]=>by simp
 |a::l=>by
  by_cases h:p a=true
  ·rw[List.dropWhile_cons_of_pos h,dropWhile_nil p l];simp[h]
  ·rw[List.dropWhile_cons_of_neg h];simp[h]
theorem kM{α:Type}(p:α->Bool):∀(l:List α) (x:α) (m:List α),l.dropWhile p=x::m->¬p x=true
 |[],x,m,h=>by cases h
 |a::l,x,m,h=>by
  by_cases hp:p a=true
  ·rw[List.dropWhile_cons_of_pos hp]at h;exact kM p l x m h
  ·rw[List.dropWhile_cons_of_neg hp]at h;injection h with h1 h2;subst h1;exact hp
theorem vZ(l cs:List UInt8):Lib.trimS l cs=[]↔∀b∈l,cs.contains b=true:=by
 unfold Lib.trimS Lib.trimLeftS Lib.trimRightS;rw[dropWhile_nil];have hr:=dropWhile_nil (cs.contains ·) l.reverse
 constructor
 ·intro h;cases e:l.reverse.dropWhile (cs.contains ·)with
  |nil=>
   rw[e]at hr;intro b hb;exact hr.1 rfl b (List.mem_reverse.2 hb)
  |cons x m=>
   exfalso
   refine kM _ _ _ _ e (h x ?_);rw[e];simp
 ·intro h;have:l.reverse.dropWhile (cs.contains ·)=[]:=hr.2 fun b hb=>h b (List.mem_reverse.1 hb);rw[this];simp
theorem w6(b:UInt8):([48,49,50,51,52,53,54,55,56,57]:List UInt8).contains b=(decide (48<=b.toNat)&&decide (b.toNat<=57)):=by
 have key:∀n:Nat,n<256->([48,49,50,51,52,53,54,55,56,57]:List UInt8).contains (UInt8.ofNat n)=(decide (48<=n)&&decide (n<=57)):=by decide+kernel
 have:=key b.toNat b.toNat_lt;rw[UInt8.ofNat_toNat]at this;exact this
theorem q6(s:List UInt8)(hl:s.length<=1000000):ju s=some (tU s):=by
 unfold ju tU
 cases s with
 |nil=>rfl
 |cons a t=>
  have h1:(!((a::t)==([]:List UInt8)))=true:=rfl;rw[if_pos h1];have h2:ua (a::t) ([48,49,50,51,52,53,54,55,56,57]:List UInt8)=some (Lib.trimS (a::t) [48,49,50,51,52,53,54,55,56,57]):=cZ ⟨by omega,by decide,by decide⟩ rfl;rw[h2,Option.bind_some]
  congr 1
  have h3:=vZ (a::t) [48,49,50,51,52,53,54,55,56,57];simp only[w6]at h3;have h4:(!(a::t).isEmpty)=true:=rfl;rw[h4,Bool.true_and];by_cases e:Lib.trimS (a::t) [48,49,50,51,52,53,54,55,56,57]=[]
  ·rw[e,List.all_eq_true.2 (h3.1 e)];rfl
  ·have h5:((a::t).all fun b=>decide (48<=b.toNat)&&decide (b.toNat<=57))=false:=by
    apply Bool.eq_false_iff.2;intro h;exact e (h3.2 (List.all_eq_true.1 h))
   rw[h5,beq_eq_false_iff_ne];exact e
theorem ph(s:List UInt8)(hl:s.length<=1000000):il s=some (qP s):=by
 unfold il qP;rw[q6 s hl,Option.bind_some];by_cases hd:tU s=true
 ·rw[if_pos hd,hd,Bool.true_and];by_cases h0:(s==([48]:List UInt8))=true
  ·rw[if_pos h0,h0];rfl
  ·rw[if_neg h0];have h0':(s==([48]:List UInt8))=false:=by simpa using h0
   rw[h0',Bool.false_or];obtain⟨_,hne⟩:=qf hd
   cases s with
   |nil=>exact absurd rfl hne
   |cons a t=>
    have:ix (a::t) 0=some a:=rfl;rw[this,Option.bind_some,List.head?_cons]
    congr 1
    by_cases e:a=48
    ·subst e;rfl
    ·have h1:((a.toNat:Int) !=48)=true:=by
      rw[bne_iff_ne];intro h;apply e;apply UInt8.toNat_inj.1;rw[show(48:UInt8).toNat=48 from rfl];omega
     have h2:((some a==some (48:UInt8)))=false:=by
      rw[beq_eq_false_iff_ne];intro h;injection h with h;exact e h
     rw[h1,h2];rfl
 ·rw[if_neg hd];have:tU s=false:=by simpa using hd
  rw[this];rfl
theorem u_(c:UInt8):∀l,(ic c l=if Lib.indexByte l c=-1 then(l,[],false)else(l.take (Lib.indexByte l c).toNat,l.drop ((Lib.indexByte l c).toNat+1),true))/\-1<=Lib.indexByte l c/\Lib.indexByte l c<(l.length:Int)
 |[]=>by simp[ic,Lib.indexByte]
 |b::l=>by
  obtain⟨h1,h2,h3⟩:=u_ c l;have hv:Lib.indexByte (b::l) c=if b==c then 0 else if Lib.indexByte l c==-1 then-1 else Lib.indexByte l c+1:=rfl;rw[hv];unfold ic;by_cases e:b=c
  ·have e':(b==c)=true:=by simpa using e
   rw[if_pos e,if_pos e'];refine⟨?_,by omega,by simp only[List.length_cons];omega⟩;rw[if_neg (by decide)];rfl
  ·have e':¬(b==c)=true:=by simpa using e
   rw[if_neg e,if_neg e',h1];by_cases h0:Lib.indexByte l c=-1
   ·have h0':(Lib.indexByte l c==-1)=true:=by simpa using h0
    rw[if_pos h0',if_pos h0,if_pos rfl];exact⟨rfl,by omega,by simp only[List.length_cons];omega⟩
   ·have h0':¬(Lib.indexByte l c==-1)=true:=by simpa using h0
    rw[if_neg h0',if_neg h0,if_neg (by omega)];have h4:(Lib.indexByte l c+1).toNat=(Lib.indexByte l c).toNat+1:=by omega
    refine⟨?_,by omega,by simp only[List.length_cons];omega⟩;rw[h4];rfl
theorem xv(s:List UInt8)(c:UInt8)(hl:s.length<=1000000):jx s [c]=some (ic c s):=by
 obtain⟨h1,h2,h3⟩:=u_ c s;unfold jx m5;have hx:sv s [c]=some (Lib.indexByte s c):=cZ rfl rfl;rw[hx,h1];simp only[Option.bind_some];by_cases h0:Lib.indexByte s c=-1
 ·rw[if_neg (by rw[h0];decide),if_pos h0];rfl
 ·rw[if_pos (decide_eq_true (by omega)),if_neg h0];have e:IntKind.i64.wrap (Lib.indexByte s c+(([c]:List UInt8).length:Int))=Lib.indexByte s c+1:=i64_in (by simp only[List.length_cons,List.length_nil];omega);rw[e,bK (by omega),bK (by omega)];have h4:(Lib.indexByte s c+1).toNat=(Lib.indexByte s c).toNat+1:=by omega
  rw[h4];rfl
theorem s8(s:List UInt8)(hl:s.length<=1000000):fJ s [45]=some (if s.head?=some 45 then(s.drop 1,true)else(s,false)):=by
 unfold fJ gq gv
 cases s with
 |nil=>rfl
 |cons a t=>
  rw[if_pos (decide_eq_true (by simp only[List.length_cons,List.length_nil];omega)),bK (by simp only[List.length_cons,List.length_nil];omega)];simp only[Option.bind_some];have h1:(List.take ((([45]:List UInt8).length:Nat):Int).toNat (a::t)==([45]:List UInt8))=(a==45):=by
   show([a]==[45])=(a==45);by_cases e:a=45
   ·subst e;rfl
   ·have h2:(a==45)=false:=by simpa using e
    rw[h2,beq_eq_false_iff_ne];intro h;injection h with h;exact e h
  rw[h1];by_cases e:a=45
  ·subst e;rw[if_neg (by decide),bK (by simp only[List.length_cons,List.length_nil];omega),if_pos (show(45::t).head?=some 45 from rfl)];rfl
  ·have h2:(a==45)=false:=by simpa using e
   have h3:¬(a::t).head?=some 45:=by intro h;injection h with h;exact e h
   rw[h2,if_neg h3];rfl
def qk(neg:Bool)(t:List UInt8):Rat×Int:=
 if(ic 47 t).2.2 then
  if !qP (ic 47 t).1 then(0,4)else if !qP (ic 47 t).2.1 then(0,4)else if ja (ic 47 t).2.1=0 then(0,9)else(mkRat (sg neg (ja (ic 47 t).1)) (ja (ic 47 t).2.1),0)
 else if !qP (ic 46 t).1 then(0,4)else if(ic 46 t).2.2&& !tU (ic 46 t).2.1 then(0,4)
 else(mkRat (sg neg (ja ((ic 46 t).1++(ic 46 t).2.1))) (10^(ic 46 t).2.1.length),0)
def rD(s:List UInt8):Rat×Int:=if 1000<s.length then(0,5)else if s.head?=some 45 then qk true (s.drop 1)else qk false s
theorem ve(a:List UInt8)(hl:a.length<=1000):Loop (fun(s:Nat×Int)=>fU a s.1 s.2) (1,0)=some (10^a.length):=by
 have hb:∀i,i<=1000->sm (10^i):=by
  intro i hi;have h1:10^i<2^(4*i+1):=Nat.lt_of_le_of_lt (Nat.pow_le_pow_left (show 10<=16 by decide) i) (by rw[show(16:Nat)=2^4 from rfl,←Nat.pow_mul];exact Nat.pow_lt_pow_right (by decide) (by omega));exact gS (fu.2 h1) (by omega)
 obtain⟨r,hr,rfl⟩:=iF (body:=fun(s:Nat×Int)=>fU a s.1 s.2) (1,0) (fun s=>∃i:Nat,i<=a.length/\s=(10^i,(i:Int))) (fun s=>(a.length-s.2).toNat) (fun r=>r=10^a.length) ⟨0,Nat.zero_le _,rfl⟩ (by
  rintro s ⟨i,hi,rfl⟩;simp only;unfold fU;by_cases h:i<a.length
  ·left
   have e10:jJ (10:Int)=some 10:=i_ (n:=10) (by omega);rw[if_pos (decide_eq_true (by omega)),e10,Option.bind_some,gh (hb i (by omega)) (kH (by decide)),Option.bind_some];have e4:IntKind.i64.wrap ((i:Int)+1)=((i+1:Nat):Int):=by rw[i64_in (by omega)];omega
   rw[e4];exact⟨_,rfl,⟨i+1,h,by rw[Nat.pow_succ]⟩,by simp only;omega⟩
  ·right
   rw[if_neg (by simp;omega)];exact⟨_,rfl,by rw[show i=a.length from by omega]⟩)
 exact hr
theorem lU{s:List UInt8}(h:tU s=true)(hl:s.length<=1000):kS s=some (ja s):=cZ ⟨by omega,(qf h).1⟩ rfl
theorem m0{s:List UInt8}(h:tU s=true)(hl:s.length<=2000):sm (ja s):=gS (zH (qf h).1 (by omega)) (by omega)
theorem yu{n:Nat}(h:n<=1000):sm (10^n):=by
 have h1:10^n<2^(4*n+1):=Nat.lt_of_le_of_lt (Nat.pow_le_pow_left (show 10<=16 by decide) n) (by rw[show(16:Nat)=2^4 from rfl,←Nat.pow_mul];exact Nat.pow_lt_pow_right (by decide) (by omega));exact gS (fu.2 h1) (by omega)
theorem pV{s:List UInt8}(h:qP s=true):tU s=true:=by unfold qP at h;rw[Bool.and_eq_true]at h;exact h.1
theorem ur{a b:List UInt8}(h:tU a=true)(k:tU b=true):tU (a++b)=true:=by
 unfold tU at*;rw[Bool.and_eq_true]at*;refine⟨?_,by rw[List.all_append,h.2,k.2];rfl⟩
 cases a with
 |nil=>simp at h
 |cons x l=>rfl
theorem tW(neg:Bool)(n d:Nat)(hd:d≠0)(hn:sm n)(hs:sm d):((cr neg n).bind fun(v60,v61)=>(dD v60 v61 d).bind fun((v63,v64),v65)=>some (((v63,v64),v65),(0:Int)))=some (rp (mkRat (sg neg n) d),0):=by
 rw[dg,Option.bind_some];dsimp only;rw[iC _ _ hd (by rw[px];exact hn) hs];rfl
theorem q7(neg:Bool)(t:List UInt8)(hl:t.length<=1000):
  ((jx t ([47]:List UInt8)).bind fun(v10,v11,v12)=>(if v12=true then(il v10).bind fun v15=>(if(!v15)=true then some (Ex.ret (((false,0),0),4))else(il v11).bind fun v18=>(if(!v18)=true then some (Ex.ret (((false,0),0),4))else(kS v10).bind fun v21=>(kS v11).bind fun v23=>(if(((aD v23).length:Int)==0)=true then some (Ex.ret (((false,0),0),9))else some (Ex.cy (v21,v23)))))else(jx t ([46]:List UInt8)).bind fun(v26,v27,v28)=>((il v26).bind fun v32=>(if(!v32)=true then some (Ex.ret (((false,0),0),4))else(if v28=true then(ju v27).bind fun v36=>(if(!v36)=true then some (Ex.ret (((false,0),0),4))else some (Ex.cy ()))else some (Ex.cy ())))).bind fun o30=>(match o30 with|Ex.cy ()=>bC (v26.length+v27.length<=9223372036854775807) ((kS (v26++v27)).bind fun v40=>(Loop (fun(s:Nat×Int)=>fU v27 s.1 s.2) (1,0)).bind fun v53=>some (Ex.cy (v40,v53)))|Ex.ret (((r54,r55),r56),r57)=>some (Ex.ret (((r54,r55),r56),r57)))):Option (Ex (Nat×Nat) (((Bool×Nat)×Nat)×Nat))).bind (fun o8=>(match o8 with|Ex.cy (v58,v59)=>(cr neg v58).bind fun(v60,v61)=>(dD v60 v61 v59).bind fun((v63,v64),v65)=>some (((v63,v64),v65),(0:Int))|Ex.ret (((r67,r68),r69),r70)=>some (((r67,r68),r69),(r70:Int))))
  =some (rp (qk neg t).1,(qk neg t).2):=by
 have c1:=qp 47 t;have c2:=qp 46 t;have hn46:=tf 46 t;rw[xv t 47 (by omega),xv t 46 (by omega)];unfold qk;generalize ic 47 t=A at*;generalize ic 46 t=B at*;obtain⟨b,a,f⟩:=A;obtain⟨b',a',f'⟩:=B;simp only at c1 c2 hn46;simp only[Option.bind_some];cases f
 ·simp only[Option.bind_some,Bool.false_eq_true,if_false,if_true,Bool.not_true,Bool.not_false,Bool.false_and,Bool.true_and];rw[ph _ (by omega),q6 _ (by omega)];cases h1:qP b'
  ·simp only[Option.bind_some,Bool.false_eq_true,if_false,if_true,Bool.not_true,Bool.not_false,Bool.false_and,Bool.true_and];rfl
  ·have d1:=pV h1;cases f'
   ·have hn:=hn46 rfl;injection hn with e1 hn;injection hn with e2 _;subst e1;subst e2;simp only[Option.bind_some,Bool.false_eq_true,if_false,if_true,Bool.not_true,Bool.not_false,Bool.false_and,Bool.true_and];rw[bK (by simp only[List.length_nil];omega),lU (by rw[List.append_nil];exact d1) (by rw[List.append_nil];exact hl),Option.bind_some,ve _ (by decide),Option.bind_some,Option.bind_some];dsimp only;have hfin:=tW neg (ja (b'++[])) (10^([]:List UInt8).length) (by decide) (m0 (by rw[List.append_nil];exact d1) (by rw[List.append_nil];omega)) (yu (by decide));exact hfin
   ·cases h3:tU a'
    ·simp only[Option.bind_some,Bool.false_eq_true,if_false,if_true,Bool.not_true,Bool.not_false,Bool.false_and,Bool.true_and];rfl
    ·simp only[Option.bind_some,Bool.false_eq_true,if_false,if_true,Bool.not_true,Bool.not_false,Bool.false_and,Bool.true_and];have d2:=ur d1 h3;have hl2:(b'++a').length<=1000:=by rw[List.length_append];omega
     rw[bK (by omega),lU d2 hl2,Option.bind_some,ve _ (by omega),Option.bind_some,Option.bind_some];dsimp only;have hfin:=tW neg (ja (b'++a')) (10^a'.length) (Nat.pos_iff_ne_zero.1 (Nat.pow_pos (by decide))) (m0 d2 (by omega)) (yu (by omega));exact hfin
 ·simp only[Option.bind_some,Bool.false_eq_true,if_false,if_true,Bool.not_true,Bool.not_false,Bool.false_and,Bool.true_and];rw[ph _ (by omega),ph _ (by omega)];cases h1:qP b
  ·simp only[Option.bind_some,Bool.false_eq_true,if_false,if_true,Bool.not_true,Bool.not_false,Bool.false_and,Bool.true_and];rfl
  ·cases h2:qP a
   ·simp only[Option.bind_some,Bool.false_eq_true,if_false,if_true,Bool.not_true,Bool.not_false,Bool.false_and,Bool.true_and];rfl
   ·have d1:=pV h1;have d2:=pV h2;simp only[Option.bind_some,Bool.false_eq_true,if_false,if_true,Bool.not_true,Bool.not_false,Bool.false_and,Bool.true_and];rw[lU d1 (by omega),lU d2 (by omega)];simp only[Option.bind_some,Bool.false_eq_true,if_false,if_true,Bool.not_true,Bool.not_false,Bool.false_and,Bool.true_and];rw[ny];by_cases h0:ja a=0
    ·rw[if_pos (decide_eq_true h0),if_pos h0];rfl
    ·rw[if_neg (by simpa using h0),if_neg h0];have hfin:=tW neg _ _ h0 (m0 d1 (by omega)) (m0 d2 (by omega));exact hfin
theorem xU(s:List UInt8)(hs:s.length<=9223372036854775807):oT s=some (rp (rD s).1,(rD s).2):=by
 unfold oT rD;by_cases h:1000<s.length
 ·rw[if_pos (decide_eq_true (by omega)),if_pos h];rfl
 ·rw[if_neg (by simp;omega),if_neg h,s8 s (by omega),uq];by_cases hm:s.head?=some 45
  ·rw[if_pos hm,if_pos hm];simp only[Option.bind_some];exact q7 true (s.drop 1) (by rw[List.length_drop];omega)
  ·rw[if_neg hm,if_neg hm];simp only[Option.bind_some];exact q7 false s (by omega)
def nb(s:List UInt8):Option (Rat×Int):=bC (s.length<=9223372036854775807) (some (rD s))
theorem oS{a1:List UInt8}{r2:Rat}{r3:Int}(h:nb a1=some (r2,r3)):bb PP 23 [] [b_ a1] [] (D.fA [qD r2,D.int .i64 r3]):=by
 obtain⟨h0,h⟩:=aG h;have e:=xU a1 h0;injection h with h;rw[h]at e;exact zJ e
end Go.Am
namespace Go.Am
open Go.RowKit
end Go.Am
namespace Go.Am
open Go.RowKit
set_option maxRecDepth 100000
noncomputable section
def kL(a1:Rat)(a2:Rat)(a3:Rat):Option Rat:=(gR a2 a1).bind fun v4=>(tG v4).bind fun v6=>(gR a3 a1).bind fun v8=>(tG v8).bind fun v10=>(j0 v6 v10).bind fun v12=>((if(v12==0)=true then(m_ a2).bind fun v17=>(m_ a3).bind fun v19=>(j0 v17 v19).bind fun v21=>some (v21)else some (v12))).bind fun v23=>((if(decide (v23<0))=true then some (Ex.ret a2)else(if(v23==0)=true then(j0 a2 a3).bind fun v28=>(if(decide (v28<0))=true then some (Ex.ret a2)else some (Ex.cy ()))else some (Ex.cy ())))).bind fun o24=>(match o24 with|Ex.cy ()=>some a3|Ex.ret r31=>some r31)
theorem xj{a1:Rat}{a2:Rat}{a3:Rat}{r32:Rat}(h:kL a1 a2 a3=some r32):bb PP 165 [] [qD a1,qD a2,qD a3] [] (qD r32):=by
 unfold kL at h;refine .of Go.Proofs.Tryz.func165 rfl (by kernel_rfl) rfl rfl rfl rfl rfl rfl (fun A w0 L b=>?_);show Ok PP _ [(0,qD a1),(1,qD a2),(2,qD a3)] [] _ _;refine .ak (.iL rfl rfl<|.iL rfl rfl<|.iL rfl rfl<|.eZ (qC (0)) ay ⟨eB,ep,ee,trivial⟩ rfl<|.nil) rfl ?_;obtain⟨v4,e5,h⟩:=bind_some h;obtain⟨v6,e7,h⟩:=bind_some h;obtain⟨v8,e9,h⟩:=bind_some h;obtain⟨v10,e11,h⟩:=bind_some h;obtain⟨v12,e13,h⟩:=bind_some h;refine .cn bP (.bg (qC (a2)) rfl rfl aa rfl rfl<|.bg (qC (a1)) rfl rfl aa rfl rfl<|.af (kv e5) ⟨rfl,rfl,trivial⟩ trivial trivial<|.af (xz e7) ⟨rfl,trivial⟩ trivial trivial<|.bg (qC (a3)) rfl rfl aa rfl rfl<|.bg (qC (a1)) rfl rfl aa rfl rfl<|.af (kv e9) ⟨rfl,rfl,trivial⟩ trivial trivial<|.af (xz e11) ⟨rfl,trivial⟩ trivial trivial<|.af (pH e13) ⟨rfl,rfl,trivial⟩ trivial trivial<|.av rfl<|.nil) rfl (by kernel_rfl) ?_;obtain⟨v23,hp15,h⟩:=bind_some h;refine .du (fun i=>v23=i) (fun(i:Int)=>[(4,D.ref 4 0),(5,D.ref 5 0),(6,D.ref 6 0),(7,D.int .i64 i)]) (fun(i:Int)=>[(4,Hp.box 28 (qC (a2))),(5,Hp.box 28 (qC (a3))),(6,Hp.box 28 (qC (0)))]) ?_ ?_
 ·have ho1:=h;have h:=hp15;refine .ak (.mv rfl<|.cm rfl rfl rfl<|.nil) rfl ?_;by_cases c16:(v12==0)=true
  ·replace h:=ab c16 h;refine .bT rfl c16 ?_;obtain⟨v17,e18,h⟩:=bind_some h;obtain⟨v19,e20,h⟩:=bind_some h;obtain⟨v21,e22,h⟩:=bind_some h;refine .cJ bP (.bg (qC (a2)) rfl rfl aa rfl rfl<|.af (tN e18) ⟨rfl,trivial⟩ trivial trivial<|.bg (qC (a3)) rfl rfl aa rfl rfl<|.af (tN e20) ⟨rfl,trivial⟩ trivial trivial<|.af (pH e22) ⟨rfl,rfl,trivial⟩ trivial trivial<|.av rfl<|.nil) rfl (by kernel_rfl) (fun _ _ hs=>⟨v21,(sj h),hs.sub (.of rfl) (.of rfl) rfl rfl⟩)
  ·replace h:=ae c16 h;refine .cC rfl c16 ?_;refine .skip (fun _ _ hs=>⟨v12,(sj h),hs.sub (.of rfl) (.of rfl) rfl rfl⟩)
 ·rintro _ rfl
  try dsimp only
  obtain⟨o24,hp25,h⟩:=bind_some h;refine .du (fun i=>o24=Ex.cy i) (fun(i:Unit)=>[(5,D.ref 5 0),(6,D.ref 6 0)]) (fun(i:Unit)=>[(5,Hp.box 28 (qC (a3))),(6,Hp.box 28 (qC (0)))]) ?_ ?_
  ·have ho1:=h;have h:=hp25;by_cases c26:(decide (v23<0))=true
   ·replace h:=ab c26 h;refine .ak (.mv rfl<|.cm rfl rfl rfl<|.mv rfl<|.gk c26<|.gk c26<|.gk c26<|.gu<|.gu<|.gu<|.gu<|.gk c26<|.an rfl c26 rfl<|.nil) rfl ?_;refine .bT rfl rfl ?_;refine .ak (.bg (qC (a2)) rfl rfl aa rfl rfl<|.cc (qC (a2)) rfl rfl rfl aa rfl rfl rfl<|.nil) rfl ?_;cases h;have h:=ho1;cases h;refine .aF (fun _ _ hb=>hb) rfl (.cons (.agg rfl rfl aa rfl) .nil) (.refl _) trivial trivial
   ·replace h:=ae c26 h;by_cases c27:(v23==0)=true
    ·replace h:=ab c27 h;obtain⟨v28,e29,h⟩:=bind_some h;refine .ak (.mv rfl<|.cm rfl rfl rfl<|.mv rfl<|.gz c26<|.mv rfl<|.gz c26<|.cm rfl rfl rfl<|.gz c26<|.mv rfl<|.gy c27<|.bg (qC (a2)) rfl rfl aa rfl rfl<|.gy c27<|.bg (qC (a3)) rfl rfl aa rfl rfl<|.gy c27<|.af (pH e29) ⟨rfl,rfl,trivial⟩ trivial trivial<|.gy c27<|.cm rfl rfl rfl<|.gz c26<|.an rfl c27 rfl<|.al rfl c26 rfl<|.nil) rfl ?_;by_cases c30:(decide (v28<0))=true
     ·replace h:=ab c30 h;refine .bT rfl c30 ?_;refine .ak (.bg (qC (a2)) rfl rfl aa rfl rfl<|.cc (qC (a2)) rfl rfl rfl aa rfl rfl rfl<|.nil) rfl ?_;cases h;have h:=ho1;cases h;refine .aF (fun _ _ hb=>hb) rfl (.cons (.agg rfl rfl aa rfl) .nil) (.refl _) trivial trivial
     ·replace h:=ae c30 h;refine .cC rfl c30 ?_;refine .skip (fun _ _ hs=>⟨(),(sj h),hs.sub (.of rfl) (.of rfl) rfl rfl⟩)
    ·replace h:=ae c27 h;refine .ak (.mv rfl<|.cm rfl rfl rfl<|.mv rfl<|.gz c26<|.mv rfl<|.gz c26<|.cm rfl rfl rfl<|.gz c26<|.mv rfl<|.gm c27<|.gm c27<|.gm c27<|.gm c27<|.gz c26<|.al rfl c27 rfl<|.al rfl c26 rfl<|.nil) rfl ?_;refine .cC rfl (by decide) ?_;refine .skip (fun _ _ hs=>⟨(),(sj h),hs.sub (.of rfl) (.of rfl) rfl rfl⟩)
  ·rintro⟨⟩ rfl
   try dsimp only
   refine .ak (.bg (qC (a3)) rfl rfl aa rfl rfl<|.cc (qC (a3)) rfl rfl rfl aa rfl rfl rfl<|.nil) rfl ?_;cases h;refine .aF (fun _ _ hb=>hb) rfl (.cons (.agg rfl rfl aa rfl) .nil) (.refl _) trivial trivial
end
end Go.Am
namespace Go.Am
abbrev FR(l:Nat):Fence:=Fence.wide.inRound l
theorem zP(P:Program)(l:Nat)(m:Machine):m.fenced P (FR l):=by
 have:=fenced_wide P m;exact this
theorem pD{P:Program}{l:Nat}{m m':Machine}:StepsIn (Machine.fenced P (FR l)) P m m'↔Steps P m m':=
 ⟨StepsIn.steps,fun h=>(StepsIn.of_steps h).mono fun m _=>zP P l m⟩
theorem xY{P:Program}{l:Nat}{m m':Machine}{e:Ending}:ComesIn (Machine.fenced P (FR l)) P m m' e↔Comes P m m' e:=by
 cases e with
 |returned v=>exact pD
 |panicked chain=>exact pD
 |outgrown=>exact Iff.rfl
theorem yo{l n:Nat}{P:Program}{f:FuncId}{args:Array Value}{w:World}{R:Ending->World->Prop}(h:Calls P f args w R):CallsIn (FR l) n P f args w R:=
 ⟨trivial,fun cs _=>let⟨e,w',fr,r,s,x⟩:=h cs;⟨e,w',fr,r,xY.2 s,x⟩⟩
theorem yK{l n:Nat}{P:Program}{row:String}{args:Array Value}{w:World}{R:Value->World->Prop}(h:Rows P row args w R):RowsIn (FR l) n P row args w R:=
 fun c cs _=>let⟨v,w',r,s⟩:=h c cs;⟨v,w',r,pD.2 s⟩
theorem zM{P:Program}{l n:Nat}{o:Oper}{a:Act}{next next':Act->World->Prop}{Q:Exit->Act->World->Prop}(hn:∀a w,next a w->next' a w):∀{r:Result Next},o.upon P a next Q r->o.uponIn (FR l) n P a next' Q r
 |.ok (.value v) w',h=>hn _ _ h
 |.ok .skip w',h=>hn _ _ h
 |.ok (.defer d) w',h=>hn _ _ h
 |.ok (.enter f args) w',h=>⟨fun hd=>(by simp[FR,Fence.wide]at hd),yo (Calls.mono h fun e w'' hr=>by
   cases e with
   |returned v=>exact hn _ _ hr
   |panicked chain=>exact hr
   |outgrown=>exact hr)⟩
 |.ok (.row row args) w',h=>⟨fun hd=>(by simp[FR,Fence.wide]at hd),yK (Rows.mono h fun v w'' hr=>hn _ _ hr)⟩
 |.halt (.panic v) w',h=>h
 |.ok (.round ..) _,h=>h.elim
theorem qj{P:Program}{l n:Nat}{ops:Array Oper}{Q:Exit->Act->World->Prop}(hQ:¬LetsOut Q)(hd:∀(i:Nat) (o:Oper),ops[i]?=some o->∀c,o.op≠.defer c):∀(is:List Nat) (a:Act) (w:World),wpOps P ops Q is a w->wpOpsIn (FR l) n P ops Q is a w
 |[],a,w,h=>h
 |i::rest,a,w,h=>by
  unfold wpOps at h;unfold wpOpsIn;cases ho:ops[i]?with
  |none=>rw[ho]at h;exact qj hQ hd rest a w h
  |some o=>
   rw[ho]at h;simp only at h|-
   split
   ·rename_i hw;rw[if_pos hw]at h;rcases h with h|h
    ·refine⟨fun _ _=>trivial,?_⟩;rw[Oper.semAt_eq _ _ _ (hd i o ho)];exact zM (fun a w hk=>qj hQ hd rest a w hk) h
    ·exact absurd h.2 hQ
   ·rename_i hw;rw[if_neg hw]at h;exact⟨fun _ _=>trivial,qj hQ hd rest _ w h⟩
def gO(l:List Oper):Bool:=l.all fun o=>match o.op with|.defer _=>false|_=>true
theorem ly{l:List Oper}(h:gO l=true)(i:Nat)(o:Oper)(ho:l.toArray[i]?=some o):∀c,o.op≠.defer c:=by
 intro c hc;have hm:o∈l:=by rw[List.getElem?_toArray]at ho;exact List.mem_of_getElem? ho
 have:=List.all_eq_true.1 h o hm;rw[hc]at this;cases this
def jO(P:Program)(c:Ctx)(T:List (Nat×D))(H:List (Nat×Hp))(x:Code)(Q:Exit->Act->World->Prop):Prop:=
 ∀l n a w,Sat c (aO T) (ai H) a w->x.wpIn (FR l) n P Q a w
section
variable {P:Program} {c:Ctx} {T T':List (Nat×D)} {H H':List (Nat×Hp)} {Q:Exit->Act->World->Prop} {x y:Code} {id:Nat} {sps:List Spec}
theorem jO.region{l:List Oper}(hL:¬LetsOut Q)(hn:gO l=true)(h:aj P l.toArray c l T H sps T' H')(hd:dZ c.n l=true)(hQ:∀a w,Sat c (aO T') (ai H') a w->Q .normal a w):jO P c T H (.region id l.toArray false) Q:=by
 intro k n a w hs;refine wpIn_region (qj hL (ly hn) _ a w ?_);have h1:=h.wp hd hQ a w hs;have h2:=wpOps_eq_wpList (P:=P) (ops:=l.toArray) (Q:=Q) l 0 (by simp);rw[List.range_eq_range',show l.toArray.size=l.length from by simp,h2];exact h1
theorem jO.cJ{l:List Oper}(hL:¬LetsOut Q)(hn:gO l=true)(hm:P.follows .mixedOrders=true)(h:aj P l.toArray c l T H sps T' H')(hd:dZ c.n l=true)(hord:kZ [] [] 0 (l.zip sps)=true)(hQ:∀a w,Sat c (aO T') (ai H') a w->Q .normal a w):jO P c T H (.region id l.toArray true) Q:=by
 intro k n a w hs;refine wpIn_region_draw fun t=>qj hL (ly hn) _ a _ ?_;simp only[Region.schedule,hm,Bool.true_or,if_true];exact wpAny_sound l.toArray.size t _ a _ (h.qE hd hord hQ a w hs)
theorem sb{K:Act->World->Prop}(h:¬LetsOut Q):¬LetsOut (Exit.then K Q):=h
theorem jO.seq{K:Act->World->Prop}(h:jO P c T H x (Exit.then K Q))(hy:∀l n a w,K a w->y.wpIn (FR l) n P Q a w):jO P c T H (.seq x y) Q:=
 fun l n a w hs=>wpIn_seq (wpIn_mono (h l n a w hs) (fun e a' w' q=>by cases e<;>first|exact q|exact hy _ _ _ _ q))
theorem jO.cn{l:List Oper}(hL:¬LetsOut Q)(hn:gO l=true)(hm:P.follows .mixedOrders=true)(h:aj P l.toArray c l T H sps T' H')(hd:dZ c.n l=true)(hord:kZ [] [] 0 (l.zip sps)=true)(hy:jO P c T' H' y Q):jO P c T H (.seq (.region id l.toArray true) y) Q:=
 .seq (K:=fun a w=>Sat c (aO T') (ai H') a w) (jO.cJ (sb hL) hn hm h hd hord (fun _ _ hs=>hs)) (fun l n a w hs=>hy l n a w hs)
theorem jO.block(h:jO P c T H x (Exit.inBlock id Q)):jO P c T H (.block id x) Q:=fun l n a w hs=>wpIn_block (h l n a w hs)
theorem jO.exit(h:∀a w,Sat c (aO T) (ai H) a w->Q (.exit id) a w):jO P c T H (.exit id) Q:=fun _ _ a w hs=>wpIn_exit (h a w hs)
theorem jO.skip(h:∀a w,Sat c (aO T) (ai H) a w->Q .normal a w):jO P c T H .skip Q:=fun _ _ a w hs=>wpIn_skip (h a w hs)
theorem jO.cT{o:Operand}(h:ev T o=some (.bool true))(k:jO P c T H x Q):jO P c T H (.cond o x y) Q:=by
 intro l n a w hs;obtain⟨ε,φ,hs'⟩:=hs;exact wpIn_cond_true (hs'.ev (aA h).1 (aA h).2).1 (k l n a w ⟨ε,φ,hs'⟩)
theorem jO.cF{o:Operand}(h:ev T o=some (.bool false))(k:jO P c T H y Q):jO P c T H (.cond o x y) Q:=by
 intro l n a w hs;obtain⟨ε,φ,hs'⟩:=hs;exact wpIn_cond_false (hs'.ev (aA h).1 (aA h).2).1 (k l n a w ⟨ε,φ,hs'⟩)
theorem jO.sq(h:jO P c T H x (Exit.then (fun a w=>∀l n,y.wpIn (FR l) n P Q a w) Q)):jO P c T H (.seq x y) Q:=.seq h (fun l n _ _ k=>k l n)
end
end Go.Am
namespace Go.Am
open Go.RowKit
def Hp.obj(o:Obj):Hp where
 p:=fun _ w _ b F=>F=only (iv b)/\w.heap[iv b]?=some o
 nm:=[]
 mono:=fun⟨e,h⟩ _ _ hF=>⟨e,(hF _ (by rw[e];rfl)).trans h⟩
def Hp.caller(T:List (Nat×D))(tm:Array Value)(H:List (Nat×Hp)):Hp where
 p:=fun _ w S _ F=>∃(ε:Env) (φ:Nat->cl),(∀t d,aO T t=some d->d.p ε w S (tm.getD t undef))/\(∀r h,ai H r=some h->h.p ε w S (ε r) (φ r))/\
  (∀r r',ai H r≠none->ai H r'≠none->r≠r'->∀k,φ r k->¬φ r' k)/\(∀r,ai H r≠none->∀k,φ r k->F k)/\(∀k,F k->k<w.heap.size/\∃r,ai H r≠none/\φ r k)
 nm:=[]
 mono:=by
  rintro ε ε' w w' S S' b F ⟨ε1,φ1,h1,h2,h3,h4,h5⟩ _ hS hF;refine⟨ε1,φ1,fun t d ht=>d.mono (h1 t d ht) (fun _ _=>rfl) hS,fun r h hr=>h.mono (h2 r h hr) (fun _ _=>rfl) hS (fun k hk=>hF k (h4 r (by rw[hr];simp) k hk)),h3,h4,fun k hk=>⟨?_,(h5 k hk).2⟩⟩;have h6:=(h5 k hk).1;have h7:=hF k hk;rw[Array.getElem?_eq_getElem h6]at h7;exact(Array.getElem?_eq_some_iff.1 h7).1
def ptrTo(l:Nat):Value:=.pointer (some ⟨l,0,none⟩)
section
variable {P:Program}
theorem pj{b:Env}{r:Nat}:∀{l:List Nat},r∈l->aO (pins b l) (1000000+r)=some (.pinned r (b r))
 |[],h=>by cases h
 |r0::l,h=>by
  simp only[pins,aO];cases hb:Nat.beq (1000000+r) (1000000+r0)with
  |true=>
   have:r=r0:=by have:=Nat.eq_of_beq_eq_true hb;omega
   subst this;rfl
  |false=>
   rcases List.mem_cons.1 h with rfl|h
   ·simp at hb
   ·exact pj h
theorem uh{T:List (Nat×D)}{tm:Array Value}{H:List (Nat×Hp)}{A F:cl}{w:World}{b v:Value}{d:D}{p:Nat}{ε0':Env}(h:(Hp.caller T tm H).p ε0' w A b F)(hA:∀k,F k->¬A k)
  (hT:cp H (mK T)=true)(hH:cp H (iV H)=true)(hd:d.nm=[])(hv:d.p ε0' w A v)(hp:p<tm.size):
  ∃β:Env,Sat ⟨A,w.heap.size,w,tm.size,F⟩ (aO ((p,d)::(T++pins β (names H)))) (ai H) {tmps:=tm.setIfInBounds p v,defers:=[]} w/\
   (∀t d,aO T t=some d->d.p β w A (tm.getD t undef)):=by
 obtain⟨ε,φ,h1,h2,h3,h4,h5⟩:=h;have hreg:∀k,A k->k<w.heap.size->ak ⟨A,w.heap.size,w,tm.size,F⟩ (ai H) φ k/\w.heap[k]?=w.heap[k]?:=fun k hk _=>⟨⟨.inl hk,fun r hr hf=>hA k (h4 r hr k hf) hk⟩,rfl⟩;refine⟨ε,⟨ε,φ,?_⟩,h1⟩;have hs:cf ⟨A,w.heap.size,w,tm.size,F⟩ (aO (T++pins ε (names H))) (ai H) {tmps:=tm,defers:=[]} w ε φ:=by
  constructor
  ·intro t d' ht;rcases ga ht with ht|ht
   ·exact d'.mono (h1 t d' ht) (fun _ _=>rfl) hreg
   ·obtain⟨r,_,_,rfl⟩:=iE ht
    rfl
  ·intro t d' ht r hr;rcases ga ht with ht|ht
   ·exact cH hT r (jR ht r hr)
   ·obtain⟨r',hr',_,rfl⟩:=iE ht;have:r=r':=by simpa [D.pinned]using hr
    subst this;exact bW.2 hr'
  ·exact fun r y hy=>y.mono (h2 r y hy) (fun _ _=>rfl) hreg (fun _ _=>rfl)
  ·exact mM hH
  ·exact fun r hr k hk=>⟨.inr (h4 r hr k hk),(h5 k (h4 r hr k hk)).1⟩
  ·exact h3
  ·exact .of (Below.refl _ _)
  ·rfl
  ·rfl
  ·rfl
 have:=hs.put (dst:=some p) (d:=d) (v:=v) (fun t ht=>by injection ht with ht;subst ht;exact hp) (d.mono hv (fun r hr=>by rw[hd]at hr;cases hr) hreg) (fun r hr=>by rw[hd]at hr;cases hr);rw[fX]at this;exact this
theorem tD{T T':List (Nat×D)}{tm:Array Value}{H H':List (Nat×Hp)}{A F:cl}{w w':World}{β:Env}{a:Act}{n:Nat}(hT:cp H (mK T)=true)(h0:∀t d,aO T t=some d->d.p β w A (tm.getD t undef))(hA:∀k,F k->¬A k)
  (hpin:gG T' (pins β (names H)))(hs:Sat ⟨A,w.heap.size,w,n,F⟩ (aO T') (ai H') a w'):
  ∃F',(Hp.caller T tm H').p ε0 w' (fun k=>(A k\/w.heap.size<=k\/F k)/\¬F' k) undef F'/\(∀k,F' k->(w.heap.size<=k\/F k)/\k<w'.heap.size)/\lj w.heap.size F w w':=by
 obtain⟨ε,φ,hs⟩:=hs;have hpins:∀r∈names H,ε r=β r:=by
  intro r hr;obtain⟨d,hd,hle⟩:=kN hpin _ _ (pj hr);exact hle.1 _ _ _ _ (hs.t _ _ hd)
 have hlo:∀k,(∃r,ai H' r≠none/\φ r k)->(w.heap.size<=k\/F k)/\k<w'.heap.size:=fun k ⟨r,hr,hf⟩=>hs.lo r hr k hf;have hreg:∀k,ak ⟨A,w.heap.size,w,n,F⟩ (ai H') φ k->k<w'.heap.size->((A k\/w.heap.size<=k\/F k)/\¬(∃r,ai H' r≠none/\φ r k))/\w'.heap[k]?=w'.heap[k]?:=fun k hk _=>⟨⟨hk.1,fun⟨r,hr,hf⟩=>hk.2 r hr hf⟩,rfl⟩;refine⟨fun k=>∃r,ai H' r≠none/\φ r k,⟨ε,φ,?_,?_,hs.dj,fun r hr k hk=>⟨r,hr,hk⟩,fun k hk=>⟨(hlo k hk).2,hk⟩⟩,hlo,hs.oL⟩
 ·intro t d ht;refine d.mono (h0 t d ht) (fun r hr=>hpins r ?_) (fun k hk hlt=>⟨⟨.inl hk,fun hf=>?_⟩,hs.oL.block k hlt (fun hF=>hA k hF hk)⟩)
  ·exact bW.1 (cH hT r (jR ht r hr))
  ·rcases(hlo k hf).1 with h|h
   ·omega
   ·exact hA k h hk
 ·intro r h hr;exact h.mono (hs.h r h hr) (fun _ _=>rfl) hreg (fun _ _=>rfl)
def mD{σ ρ:Type}:St σ ρ->Bool
 |.next _=>true
 |.done _=>false
def YR{σ ρ:Type}(T:List (Nat×D))(tm:Array Value)(C:St σ ρ->List (Nat×Hp))(st:St σ ρ)(A F:cl)(w:World):Ending->World->Prop:=
 fun e w'=>∃F':cl,e=.returned (.bool (mD st))/\(Hp.caller T tm (C st)).p ε0 w' (fun k=>(A k\/w.heap.size<=k\/F k)/\¬F' k) undef F'/\(∀k,F' k->(w.heap.size<=k\/F k)/\k<w'.heap.size)/\lj w.heap.size F w w'
def n_(P:Program)(l:Nat){σ ρ α:Type}(T:List (Nat×D))(tm:Array Value)(C:St σ ρ->List (Nat×Hp))(dx:α->D)(step:σ->α->Option (St σ ρ)):Prop:=
 ∀s x st,step s x=some st->∀(A F:cl) (w:World) (v:Value),(∀k,F k->¬A k)->(Hp.caller T tm (C (.next s))).p ε0 w A undef F->(dx x).p ε0 w A v->
  ∃f tmps assign body,(Instr.yield l #[v]).run P w=.ok (.round l f tmps assign body) w/\∀n,RoundIn Fence.wide n P l f tmps assign body w (YR T tm C st A F w)
def cX(fn:FuncId)(tm:Array Value)(p:Nat)(assign body:Code)(dd:Nat)(st:LoopState)(pe:Option Code):Go.Loop:={state:=st,pending:=pe,fn,tmps:=tm,params:=#[p],assign,body,defers:=dd}
def lh{σ ρ:Type}(j:Nat):St σ ρ->Option Code
 |.next _=>none
 |.done _=>some (.exit j)
def stat{σ ρ:Type}:St σ ρ->LoopState
 |.next _=>.ready
 |.done _=>.done
def bR{σ ρ:Type}(rd dd:Nat)(o:Obj)(C:St σ ρ->List (Nat×Hp))(st:St σ ρ):List (Nat×Hp):=(rd,.obj o)::(dd,.obj (.deferred (some [])))::C st
def xR{σ ρ:Type}(c:Ctx)(j rd dd:Nat)(o:Obj)(C:St σ ρ->List (Nat×Hp))(β:Env)(bF:List Nat)(st:St σ ρ):Exit->Act->World->Prop
 |.normal,a,w=>(∃s,st=.next s)/\∃T',gG T' (pins β bF)/\Sat c (aO T') (ai (bR rd dd o C st)) a w
 |.exit id,a,w=>id=j/\(∃r,st=.done r)/\∃T',gG T' (pins β bF)/\Sat c (aO T') (ai (bR rd dd o C st)) a w
 |_,_,_=>False
theorem oW{c:Ctx}{T:List (Nat×D)}{H:List (Nat×Hp)}{a:Act}{w:World}{rd l:Nat}{o:Obj}(o':Obj)(hs:Sat c (aO T) (ai ((rd,.obj o)::H)) a w)(hp:∀ε φ,cf c (aO T) (ai ((rd,.obj o)::H)) a w ε φ->ε rd=ptrTo l):
  w.heap[l]?=some o/\Sat c (aO T) (ai ((rd,.obj o')::H)) a (w.putObj l o'):=by
 obtain⟨ε,φ,hs⟩:=hs;have h1:ai ((rd,Hp.obj o)::H) rd=some (.obj o):=by simp[ai]
 have hp:=hp ε φ hs;obtain⟨e1,e2⟩:=hs.h rd _ h1;have hb:iv (ε rd)=l:=by rw[hp];rfl
 rw[hb]at e1 e2;have hlt:l<w.heap.size:=(Array.getElem?_eq_some_iff.1 e2).1;refine⟨e2,ε,φ,?_⟩;have h2:=hs.pM (w':=w.putObj l o') (y:=.obj o') h1 (by simp) rfl rfl rfl (fun k hk=>World.putObj_heap_other (fun e=>hk (by rw[e1,e];rfl))) ⟨by rw[hb];exact e1,by rw[hb];exact World.putObj_heap_same hlt⟩ (fun r hr=>by cases hr);have h3:bp (ai ((rd,Hp.obj o)::H)) [(rd,.obj o')]=ai ((rd,.obj o')::H):=by
  funext r
  simp only[bp,ai];cases Nat.beq r rd<;>rfl
 rw[h3]at h2;exact h2
theorem uO{c:Ctx}{T:List (Nat×D)}{H:Nat->Option Hp}{a:Act}{w:World}{β:Env}{bF:List Nat}{r:Nat}(hsub:gG T (pins β bF))(hr:r∈bF){v:Value}(hv:β r=v):∀ε φ,cf c (aO T) H a w ε φ->ε r=v:=by
 intro ε φ hs;obtain⟨d,hd,hle⟩:=kN hsub _ _ (pj hr);exact(show ε r=β r from hle.1 _ _ _ _ (hs.t _ _ hd)).trans hv
theorem yw{σ ρ α:Type}{l rd dd j p:Nat}{fn:FuncId}{tm:Array Value}{assign body:Code}{D0:Nat}{T:List (Nat×D)}{C:St σ ρ->List (Nat×Hp)}{dx:α->D}{step:σ->α->Option (St σ ρ)}{nmsC:List Nat}
  (hn:∀st,names (C st)=nmsC)(hrd:Nat.beq rd dd=false)(hTn:∀(o:Obj) st,cp (bR rd dd o C st) (mK T)=true)(hHn:∀(o:Obj) st,cp (bR rd dd o C st) (iV (C st))=true)(hdx:∀x,(dx x).nm=[])(hp:p<tm.size)
  (pt:Nat)(hpt:aO T pt=some (.pinned rd (ptrTo l)))
  (Hx:α->List (Nat×Hp))(T1:(β:Env)->α->List (Nat×D))(hT1:∀β x,gG (T1 β x) (pins β (rd::dd::nmsC)))
  (ha:∀s x st,step s x=some st->∀A w0 L β,jO P ⟨A,w0.heap.size,w0,tm.size,L⟩ ((p,dx x)::(T++pins β (rd::dd::nmsC))) (bR rd dd (.loop (cX fn tm p assign body D0 .ready none)) C (.next s)) assign
   (Exit.then (fun a w=>Sat ⟨A,w0.heap.size,w0,tm.size,L⟩ (aO (T1 β x)) (ai (bR rd dd (.loop (cX fn tm p assign body D0 .ready none)) C (.next s)++Hx x)) a w) (fun _ _ _=>False)))
  (hb:∀s x st,step s x=some st->∀A w0 L β,jO P ⟨A,w0.heap.size,w0,tm.size,L⟩ (T1 β x) (bR rd dd (.loop (cX fn tm p assign body D0 .busy none)) C (.next s)++Hx x) body (xR ⟨A,w0.heap.size,w0,tm.size,L⟩ j rd dd (.loop (cX fn tm p assign body D0 .busy none)) C β (rd::dd::nmsC) st)):
  n_ P l T tm (fun st=>bR rd dd (.loop (cX fn tm p assign body D0 (stat st) (lh j st))) C st) dx step:=by
 intro s x st hst A F w v hA hcal hv;have hnames:∀(o:Obj) st,names (bR rd dd o C st)=rd::dd::nmsC:=fun o st=>by simp only[bR,names,hn]
 have hHall:∀(o:Obj) st,cp (bR rd dd o C st) (iV (bR rd dd o C st))=true:=fun o st=>by
  show cp (bR rd dd o C st) (iV (C st))=true;exact hHn o st
 obtain⟨β,hsat,h0⟩:=uh (d:=dx x) (v:=v) (p:=p) hcal hA (hTn _ _) (hHall _ _) (hdx x) hv hp;rw[hnames]at hsat
 -- the record
 have hl:w.heap[l]?=some (.loop (cX fn tm p assign body D0 .ready none)):=by
  obtain⟨ε,φ,h1,h2,_⟩:=hcal;have e1:ε rd=ptrTo l:=h1 pt _ hpt;have e2:=(h2 rd (.obj (.loop (cX fn tm p assign body D0 .ready none))) (by simp[bR,ai,stat,lh])).2;rw[e1]at e2;exact e2
 refine⟨fn,_,assign,body,?_,fun n=>roundIn_of_wpIn (tmps:=tm.setIfInBounds p v) trivial (wpIn_mono (ha s x st hst A w F β l n _ _ hsat) ?_)⟩
 ·have:=run_yield (P:=P) (args:=#[v]) hl rfl;rw[this];simp[cX]
 intro e a1 w1 hq
 cases e with
 |normal=>
  have hβ:β rd=ptrTo l:=h0 pt _ hpt;have hq':Sat ⟨A,w.heap.size,w,tm.size,F⟩ (aO (T1 β x)) (ai (bR rd dd (.loop (cX fn tm p assign body D0 .ready none)) C (.next s)++Hx x)) a1 w1:=hq;obtain⟨hl1,hS1⟩:=oW (.loop (cX fn tm p assign body D0 .busy none)) hq' (uO (hT1 β x) (by simp) hβ);refine⟨_,run_beginRound hl1 rfl,wpIn_mono (hb s x st hst A w F β l n _ _ hS1) ?_⟩;have fin:∀(a2:Act) (w2:World),(∃T',gG T' (pins β (rd::dd::nmsC))/\Sat ⟨A,w.heap.size,w,tm.size,F⟩ (aO T') (ai (bR rd dd (.loop (cX fn tm p assign body D0 .busy none)) C st)) a2 w2)->
    w2.heap[l]?=some (.loop (cX fn tm p assign body D0 .busy none))/\∃F':cl,(Hp.caller T tm (bR rd dd (.loop (cX fn tm p assign body D0 (stat st) (lh j st))) C st)).p ε0 (w2.putObj l (.loop (cX fn tm p assign body D0 (stat st) (lh j st)))) (fun k=>(A k\/w.heap.size<=k\/F k)/\¬F' k) undef F'/\
    (∀k,F' k->(w.heap.size<=k\/F k)/\k<(w2.putObj l (.loop (cX fn tm p assign body D0 (stat st) (lh j st)))).heap.size)/\lj w.heap.size F w (w2.putObj l (.loop (cX fn tm p assign body D0 (stat st) (lh j st)))):=by
   rintro a2 w2 ⟨T',hsub,hS⟩;obtain⟨hl2,hS2⟩:=oW (.loop (cX fn tm p assign body D0 (stat st) (lh j st))) hS (uO hsub (by simp) hβ);refine⟨hl2,?_⟩;exact tD (H:=bR rd dd (.loop (cX fn tm p assign body D0 .ready none)) C (.next s)) (hTn _ _) h0 hA (by rw[hnames];exact hsub) hS2
  intro e2 a2 w2 hq2
  cases e2 with
  |normal=>
   obtain⟨⟨s',rfl⟩,hq2⟩:=hq2;obtain⟨hl2,F',hf⟩:=fin a2 w2 hq2;exact⟨_,_,run_endRound (P:=P) none hl2,F',rfl,hf⟩
  |exit id=>
   obtain⟨rfl,⟨r,rfl⟩,hq2⟩:=hq2;obtain⟨hl2,F',hf⟩:=fin a2 w2 hq2;exact⟨_,_,run_endRound (P:=P) (some (.exit id)) hl2,F',rfl,hf⟩
  |_=>exact hq2.elim
 |_=>exact hq.elim
theorem mP{nc:Nat}{h:Hp}{r:Nat}{h':Hp}(e:ai [(nc,h)] r=some h'):r=nc/\h'=h:=by
 simp only[ai]at e
 cases hb:Nat.beq r nc with
 |true=>rw[hb]at e;injection e with e;exact⟨Nat.eq_of_beq_eq_true hb,e.symm⟩
 |false=>rw[hb]at e;cases e
theorem hJ{nc:Nat}{h:Hp}{r:Nat}(e:ai [(nc,h)] r≠none):r=nc:=by
 cases hq:ai [(nc,h)] r with
 |none=>exact absurd hq e
 |some h'=>exact(mP hq).1
theorem wA{dst:Option Nat}{ty:TypeId}{pos:String}{aft:Array Edge}{l:Nat}{x y:Operand}{ats:Array TypeId}(a:Act)(w:World){v:Value}(hx:a.eval x=.func (.yield l) #[] #[])(hy:a.eval y=v):
  (execOp a.eval ⟨dst,.call {callee:=.value x,args:=#[y],argTypes:=ats},ty,pos,aft,none⟩).run P w=(Instr.yield l #[v]).run P w:=by
 simp only[execOp,resolve,hx,Deferred.ofValue,Sem.run_bind,Sem.run_pure,Result.andThen_ok,invoke];simp[hy]
theorem yl{σ ρ α:Type}{l:Nat}{T:List (Nat×D)}{tm:Array Value}{C:St σ ρ->List (Nat×Hp)}{dx:α->D}{step:σ->α->Option (St σ ρ)}(hY:n_ P l T tm C dx step){s:σ}{x0:α}{st:St σ ρ}(hst:step s x0=some st)
  {c:Ctx}{T2:List (Nat×D)}{H2:List (Nat×Hp)}{x y:Operand}{nc n:Nat}(hx:ev T2 x=some (.lit (.func (.yield l) #[] #[])))(hy:ev T2 y=some (dx x0))(hdx:(dx x0).nm=[])(hH:ai H2 nc=some (.caller T tm (C (.next s))))
  {dst:Option Nat}{ty:TypeId}{pos:String}{aft:Array Edge}{ats:Array TypeId}(hdst:∀t,dst=some t->t<c.n){K:Act->World->Prop}{Q:Exit->Act->World->Prop}
  (hK:∀a' w',Sat c (aO (bf T2 dst (.bool (mD st)))) (ai ((nc,.caller T tm (C st))::H2)) a' w'->K a' w'){a:Act}{w:World}(hs:Sat c (aO T2) (ai H2) a w):
  Oper.wpIn Fence.wide n P ⟨dst,.call {callee:=.value x,args:=#[y],argTypes:=ats},ty,pos,aft,none⟩ a w K Q:=by
 obtain⟨ε,φ,hs⟩:=hs;have ex:=(hs.ev (aA hx).1 (aA hx).2).1;have ey:=(hs.ev (aA hy).1 (aA hy).2).1;have hcal:=hs.h nc _ hH;have hHn:ai H2 nc≠none:=by rw[hH];simp
 obtain⟨f,tmps,assign,body,hrun,hround⟩:=hY s x0 st hst (ak c (ai H2) φ) (φ nc) w (a.eval y) (fun k hk hr=>hr.2 nc hHn hk) hcal ((dx x0).mono ey (fun r hr=>by rw[hdx]at hr;cases hr) (fun k hk _=>⟨hk,rfl⟩));refine⟨fun _ _=>trivial,?_⟩;rw[Oper.semAt_eq _ _ _ (by intro c hc;cases hc),wA a w ex rfl,hrun];refine⟨fun hd=>by simp[Fence.wide]at hd,(hround (n-1)).mono ?_⟩;rintro e w' ⟨F',rfl,hp,hlo,hbel⟩;have hfn:cW φ nc F' nc=F':=aB _ _ _;have hloan:∀k,ld [(nc,Hp.caller T tm (C (.next s)))] φ k↔φ nc k:=fun k=>⟨fun⟨r,hr,hf⟩=>by rw[←hJ hr];exact hf,fun hf=>⟨nc,by simp[ai],hf⟩⟩;obtain⟨ε1,φ1,hS⟩:=hs.back (T0:=aO T2) (Hi:=[(nc,.caller T tm (C (.next s)))]) (Ho:=[(nc,.caller T tm (C st))]) (d:=.bool (mD st)) (v:=.bool (mD st)) (dst:=dst) (ε':=ε) (φ':=cW φ nc F') (n:=0) (w':=w')
  (fun r h hr=>by obtain⟨rfl,rfl⟩:=mP hr;exact hH) (fun r ho hi=>by rw[hJ ho]at hi;simp[ai]at hi) (fun r h hr r' hr'=>by obtain⟨rfl,rfl⟩:=mP hr;cases hr') (fun r hr=>by cases hr) (fun r hr=>by rw[hJ hr];simp[ai]) (fun _ _=>rfl)
  ⟨rfl,fun r h hr=>by
   obtain⟨rfl,rfl⟩:=mP hr;rw[hfn];refine(Hp.caller T tm (C st)).mono (ε:=ε0) hp (fun r hr=>by cases hr) (fun k hk _=>⟨⟨?_,fun r' hr'=>?_⟩,rfl⟩) (fun _ _=>rfl)
   ·rcases hk.1 with h|h|h
    ·exact .inl h
    ·exact .inr (.inl h)
    ·exact .inr (.inr ((hloan k).2 h))
   ·rw[hJ hr',hfn];exact hk.2,
   fun r hr k hk=>by
   rw[hJ hr,hfn]at hk;exact⟨(hlo k hk).1.elim .inl (fun h=>.inr ((hloan k).2 h)),(hlo k hk).2⟩,
   fun r r' hr hr' hne=>absurd ((hJ hr).trans (hJ hr').symm) hne,
   ⟨hbel.os,hbel.tape,hbel.output,hbel.size,fun k hk hl=>hbel.block k hk (fun hf=>hl ((hloan k).2 hf))⟩⟩ hdst
 rw[fX,bu]at hS;exact hK _ _ ⟨ε1,φ1,hS⟩
def mark(D:Nat):Deferred:={target:=.collected D,args:=#[]}
def jP(rd dd l b:Nat)(Tk:List (Nat×D)):List (Nat×D):=(2000000,.pinned rd (ptrTo l))::(2000001,.pinned dd (ptrTo b))::Tk
def vc{σ ρ:Type}(j:Nat):St σ ρ->Exit
 |.next _=>.normal
 |.done _=>.exit j
theorem Ok.AD{σ ρ α:Type}{c:Ctx}{T:List (Nat×D)}{H:List (Nat×Hp)}{Q:Exit->Act->World->Prop}{g:Operand}{f:FuncId}{p:Nat}{assign body:Code}{rb tb j rd dd:Nat}{lb lb':List D}{C:St σ ρ->List (Nat×Hp)}{dx:α->D}{step:σ->α->Option (St σ ρ)}{s0:σ}{cc:St σ ρ}(Tk:List (Nat×D))(nmsC:List Nat)
  (hg:ev T g=some (.nH f [] [.ref rb 0]))(hok:l8 P f=true)(hrb:ai H rb=some (.box tb lb))(hlb:bF lb=[])(hTk:∀t d,aO Tk t=some d->aO T t=some d)(hC:Bo (C (.next s0)) H)(hCb:ai (C (.next s0)) rb=none)(hrd:ai H rd=none)(hdd:ai H dd=none)(hne:Nat.beq rd dd=false)
  (hn:∀st,names (C st)=nmsC)(hTn:∀(l b:Nat) (o:Obj) st,cp (bR rd dd o C st) (mK (jP rd dd l b Tk))=true)(hHn:∀(o:Obj) st,cp (bR rd dd o C st) (iV (C st))=true)(hdx:∀x,(dx x).nm=[])(hp:p<c.n)
  (hcall:∀(l b:Nat) (fn:FuncId) (tm:Array Value),n_ P l (jP rd dd l b Tk) tm (fun st=>bR rd dd (.loop (cX fn tm p assign body b (stat st) (lh j st))) C st) dx step->
   bb P f [(0,.box tb lb),(1,.caller (jP rd dd l b Tk) tm (bR rd dd (.loop (cX fn tm p assign body b (stat (.next s0:St σ ρ)) (lh j (.next s0:St σ ρ)))) C (.next s0)))] [.lit (.func (.yield l) #[] #[]),.ref 0 0]
    [(0,.box tb lb'),(1,.caller (jP rd dd l b Tk) tm (bR rd dd (.loop (cX fn tm p assign body b (stat cc) (lh j cc))) C cc))] .any)
  (Hx:α->List (Nat×Hp))(T1:(β:Env)->(l b:Nat)->α->List (Nat×D))(hT1:∀β l b x,gG (T1 β l b x) (pins β (rd::dd::nmsC)))
  (ha:∀(l b:Nat) (o:Obj) s x st,step s x=some st->∀A w0 L β,jO P ⟨A,w0.heap.size,w0,c.n,L⟩ ((p,dx x)::(jP rd dd l b Tk++pins β (rd::dd::nmsC))) (bR rd dd o C (.next s)) assign
   (Exit.then (fun a w=>Sat ⟨A,w0.heap.size,w0,c.n,L⟩ (aO (T1 β l b x)) (ai (bR rd dd o C (.next s)++Hx x)) a w) (fun _ _ _=>False)))
  (hb:∀(l b:Nat) (o:Obj) s x st,step s x=some st->∀A w0 L β,jO P ⟨A,w0.heap.size,w0,c.n,L⟩ (T1 β l b x) (bR rd dd o C (.next s)++Hx x) body (xR ⟨A,w0.heap.size,w0,c.n,L⟩ j rd dd o C β (rd::dd::nmsC) st))
  (hQ:∀(l b:Nat) (o:Obj) (a:Act) (w:World),a.defers=[mark b]->Sat c (aO (jP rd dd l b Tk)) (ai ((rd,.obj o)::(dd,.obj (.deferred (some [])))::C cc)) {a with defers:=[]} w->Q (vc j cc) a w):
  Ok P c T H (.rangeFunc g #[p] assign body) Q:=by
 rintro a w ⟨ε,φ,hs⟩;refine(wpIn_wide (n:=0)).1 (wpIn_rangeFunc (fun fn _=>?_));obtain⟨vs,us,eg,hvs,hus⟩:=(hs.ev (aA hg).1 (aA hg).2).1;obtain rfl:vs=[]:=List.eq_nil_of_length_eq_zero (aS hvs)
 match us,hus with
 |[u],hus=>
 have eu:u=.pointer (some ⟨iv (ε rb),0,none⟩):=hus.1;have hrdd:rd≠dd:=fun e=>by subst e;simp at hne
 -- the two blocks
 have hs1:=hs.ky (r:=dd) (x:=.obj (.deferred (some []))) (b:=ptrTo w.heap.size) (F:=only w.heap.size) (w':=w.alloc (.deferred (some []))) hdd ((Below.refl _ _).alloc (Nat.le_refl _) _) (fun k hk=>by simp only[only]at hk;subst hk;simp) ⟨rfl,gK _ _⟩ (fun r hr=>by cases hr);have hs2:=hs1.ky (r:=rd) (x:=.obj (.loop (cX fn a.tmps p assign body w.heap.size .ready none))) (b:=ptrTo (w.heap.size+1)) (F:=only (w.heap.size+1)) (w':=(w.alloc (.deferred (some []))).alloc (.loop (cX fn a.tmps p assign body w.heap.size .ready none)))
  (by rw[bG,aL _ _ hrdd];exact hrd) ((Below.refl _ _).alloc (Nat.le_refl _) _) (fun k hk=>by simp only[only]at hk;subst hk;simp) ⟨rfl,by have:=gK (w.alloc (.deferred (some []))) (.loop (cX fn a.tmps p assign body w.heap.size .ready none));rw[World.size_alloc]at this;exact this⟩ (fun r hr=>by cases hr)
 have eH:bp (bp (ai H) [(dd,.obj (.deferred (some [])))]) [(rd,.obj (.loop (cX fn a.tmps p assign body w.heap.size .ready none)))]=ai ((rd,.obj (.loop (cX fn a.tmps p assign body w.heap.size .ready none)))::(dd,.obj (.deferred (some [])))::H):=by
  rw[bu,bu];rfl
 rw[eH]at hs2;generalize hε1:cW (cW ε dd (ptrTo w.heap.size)) rd (ptrTo (w.heap.size+1))=ε1 at hs2;generalize hφ1:cW (cW φ dd (only w.heap.size)) rd (only (w.heap.size+1))=φ1 at hs2;generalize hW:(w.alloc (.deferred (some []))).alloc (.loop (cX fn a.tmps p assign body w.heap.size .ready none))=W at hs2;have erd:ε1 rd=ptrTo (w.heap.size+1):=by rw[←hε1,aB]
 have edd:ε1 dd=ptrTo w.heap.size:=by rw[←hε1,aL _ _ (Ne.symm hrdd),aB]
 have hrbd:rb≠dd:=fun e=>by subst e;rw[hrb]at hdd;cases hdd
 have hrbr:rb≠rd:=fun e=>by subst e;rw[hrb]at hrd;cases hrd
 have erb:ε1 rb=ε rb:=by rw[←hε1,aL _ _ hrbr,aL _ _ hrbd]
 obtain⟨HA,hHA⟩:∃HA,HA=(rd,Hp.obj (.loop (cX fn a.tmps p assign body w.heap.size .ready none)))::(dd,Hp.obj (.deferred (some [])))::H:=⟨_,rfl⟩;rw[←hHA]at hs2;obtain⟨H1,hH1⟩:∃H1,H1=bR rd dd (.loop (cX fn a.tmps p assign body w.heap.size .ready none)) C (.next s0):=⟨_,rfl⟩;have hbeq:∀{x y:Nat},x≠y->Nat.beq x y=false:=fun{x y} h=>by
  cases hq:Nat.beq x y with
  |false=>rfl
  |true=>exact absurd (Nat.eq_of_beq_eq_true hq) h
 -- the caller's blocks are the state's own
 have hin1:∀r h,ai H1 r=some h->ai HA r=some h:=by
  intro r h hr;rw[hH1]at hr;rw[hHA];simp only[bR,ai]at hr|-
  cases hq:Nat.beq r rd with
  |true=>rw[hq]at hr;exact hr
  |false=>
   rw[hq]at hr
   cases hq2:Nat.beq r dd with
   |true=>rw[hq2]at hr;exact hr
   |false=>rw[hq2]at hr;exact hC r h hr
 have hin1n:∀r,ai H1 r≠none->ai HA r≠none:=fun r hr=>by
  cases hq:ai H1 r with
  |none=>exact absurd hq hr
  |some h=>rw[hin1 r h hq];simp
 have hrb1:ai HA rb=some (.box tb lb):=by rw[hHA];simp only[ai,hbeq hrbr,hbeq hrbd];exact hrb
 have hrb1n:ai HA rb≠none:=by rw[hrb1];simp
 have hrbn1:∀r,ai H1 r≠none->rb≠r:=by
  intro r hr e;subst e;rw[hH1]at hr;simp only[bR,ai,hbeq hrbr,hbeq hrbd]at hr;exact hr hCb
 have hTk1:∀t d,aO (jP rd dd (w.heap.size+1) w.heap.size Tk) t=some d->d.p ε1 W (Am.ak c (ai HA) φ1) (a.tmps.getD t undef):=by
  intro t d ht;simp only[jP,aO]at ht
  cases hq:Nat.beq t 2000000 with
  |true=>rw[hq]at ht;injection ht with ht;subst ht;exact erd
  |false=>
   rw[hq]at ht
   cases hq2:Nat.beq t 2000001 with
   |true=>rw[hq2]at ht;injection ht with ht;subst ht;exact edd
   |false=>rw[hq2]at ht;exact hs2.t t d (hTk t d ht)
 have hsz:a.tmps.size=c.n:=hs.sz;have hY:n_ P (w.heap.size+1) (jP rd dd (w.heap.size+1) w.heap.size Tk) a.tmps (fun st=>bR rd dd (.loop (cX fn a.tmps p assign body w.heap.size (stat st) (lh j st))) C st) dx step:=
  yw hn hne (hTn _ _) hHn hdx (by rw[hsz];exact hp) 2000000 rfl Hx (fun β x=>T1 β (w.heap.size+1) w.heap.size x) (fun β x=>hT1 β _ _ x) (fun s x st hst A w0 L β=>by rw[hsz];exact ha _ _ _ s x st hst A w0 L β) (fun s x st hst A w0 L β=>by rw[hsz];exact hb _ _ _ s x st hst A w0 L β)
 have hc:=hcall _ _ fn a.tmps hY;refine⟨w.heap.size+1,[mark w.heap.size],W,{target:=.fn (.func f) #[u],args:=#[.func (.yield (w.heap.size+1)) #[] #[]]},W,f,#[.func (.yield (w.heap.size+1)) #[] #[],u],W,?_,?_,fun _ _=>trivial,?_,fun hd=>by simp[Fence.wide]at hd,callsIn_wide.2 ?_⟩
 ·rw[←hW];exact run_enterLoop_outer _ _ _ _ _
 ·simp only[resolve,eg];simp[go_sem]
 ·have hok':=hok;unfold l8 at hok';cases hf:P.funcs[f]?with
  |none=>simp[hf]at hok'
  |some fn'=>
   simp only[hf,Bool.and_eq_true,Bool.not_eq_true']at hok';have hbn:fn'.body.isNone=false:=by cases h:fn'.body<;>simp_all
   simp only[invoke,callFunc,Sem.run_bind,run_program,Result.andThen_ok,hf,hok'.1,Bool.false_eq_true,if_false,hbn];simp
 -- the call
 let ε2:Env:=fun r=>if r=0 then ε1 rb else undef
 let F1:cl:=fun k=>∃r,ai H1 r≠none/\φ1 r k
 let φ2:Nat->cl:=fun r=>if r=0 then φ1 rb else F1
 have hget2:∀{x y:Hp} {r:Nat} {h:Hp},ai [(0,x),(1,y)] r=some h->(r=0/\h=x)\/(r=1/\h=y):=by
  intro x y r h hr;simp only[ai]at hr
  cases hq:Nat.beq r 0 with
  |true=>rw[hq]at hr;injection hr with hr;exact .inl ⟨Nat.eq_of_beq_eq_true hq,hr.symm⟩
  |false=>
   rw[hq]at hr
   cases hq2:Nat.beq r 1 with
   |true=>rw[hq2]at hr;injection hr with hr;exact .inr ⟨Nat.eq_of_beq_eq_true hq2,hr.symm⟩
   |false=>rw[hq2]at hr;cases hr
 have hget2n:∀{x y:Hp} {r:Nat},ai [(0,x),(1,y)] r≠none->r=0\/r=1:=by
  intro x y r hr
  cases hq:ai [(0,x),(1,y)] r with
  |none=>exact absurd hq hr
  |some h=>exact(hget2 hq).imp (·.1) (·.1)
 refine(hc.calls (Am.ak c (ai HA) φ1) W ε2 φ2 [.func (.yield (w.heap.size+1)) #[] #[],u] ?_ ?_ ?_ ⟨rfl,?_,trivial⟩).mono ?_
 ·intro r hr k hk;rcases hget2n hr with rfl|rfl
  ·exact⟨fun h=>h.2 rb hrb1n hk,(hs2.lo rb hrb1n k hk).2⟩
  ·obtain⟨r,hr,hf⟩:=hk;exact⟨fun h=>h.2 r (hin1n r hr) hf,(hs2.lo r (hin1n r hr) k hf).2⟩
 ·intro r r' hr hr' hne' k hk hk';rcases hget2n hr with rfl|rfl<;>rcases hget2n hr' with rfl|rfl
  ·exact hne' rfl
  ·obtain⟨r,hr,hf⟩:=hk';exact hs2.dj rb r hrb1n (hin1n r hr) (hrbn1 r hr) k hk hf
  ·obtain⟨r,hr,hf⟩:=hk;exact hs2.dj rb r hrb1n (hin1n r hr) (hrbn1 r hr) k hk' hf
  ·exact hne' rfl
 ·intro r h hr;rcases hget2 hr with⟨rfl,rfl⟩|⟨rfl,rfl⟩
  ·exact(Hp.box tb lb).mono (hs2.h rb _ hrb1) (fun r hr=>by rw[show(Hp.box tb lb).nm=bF lb from rfl,hlb]at hr;cases hr) (fun _ hk _=>⟨hk,rfl⟩) (fun _ _=>rfl)
  ·refine⟨ε1,φ1,hTk1,?_,?_,fun r hr k hk=>?_,fun k ⟨r,hr,hf⟩=>?_⟩
   ·exact fun r h hr=>hs2.h r h (hin1 r h (by rw[hH1];exact hr))
   ·exact fun r r' hr hr'=>hs2.dj r r' (hin1n r (by rw[hH1];exact hr)) (hin1n r' (by rw[hH1];exact hr'))
   ·exact⟨r,by rw[hH1];exact hr,hk⟩
   ·exact⟨(hs2.lo r (hin1n r hr) k hf).2,r,by rw[hH1]at hr;exact hr,hf⟩
 ·show u=_;rw[eu];show _=Value.pointer (some ⟨iv (ε1 rb),0,none⟩);rw[erb]
 rintro e w3 ⟨v,ε',φ',rfl,hε',_,hp',hlo',hdj',hbel'⟩;obtain⟨ε3,φ3,k1,k2,k3,k4,k5⟩:=hp' 1 _ rfl;have hloan:∀k,ld [(0,Hp.box tb lb),(1,Hp.caller (jP rd dd (w.heap.size+1) w.heap.size Tk) a.tmps (bR rd dd (.loop (cX fn a.tmps p assign body w.heap.size (stat (.next s0:St σ ρ)) (lh j (.next s0:St σ ρ)))) C (.next s0)))] φ2 k->c.base<=k\/c.L k:=by
  rintro k ⟨r,hr,hf⟩;rcases hget2n hr with rfl|rfl
  ·exact(hs2.lo rb hrb1n k hf).1
  ·obtain⟨r,hr,hf⟩:=hf;exact(hs2.lo r (hin1n r hr) k hf).1
 have hF1:∀k,φ' 1 k->(c.base<=k\/c.L k)/\k<w3.heap.size:=fun k hk=>by
  have:=hlo' 1 (by simp[ai]) k hk;refine⟨?_,this.2⟩;rcases this.1 with h|h
  ·exact .inl (Nat.le_trans hs2.fp h)
  ·exact hloan k h
 have hregE:∀{HE:List (Nat×Hp)},(∀r,ai HE r≠none->∀k,φ3 r k->φ' 1 k)->∀k,Am.ak ⟨Am.ak c (ai HA) φ1,W.heap.size,W,0,ld [(0,Hp.box tb lb),(1,Hp.caller (jP rd dd (w.heap.size+1) w.heap.size Tk) a.tmps (bR rd dd (.loop (cX fn a.tmps p assign body w.heap.size (stat (.next s0:St σ ρ)) (lh j (.next s0:St σ ρ)))) C (.next s0)))] φ2⟩ (ai [(0,.box tb lb'),(1,.caller (jP rd dd (w.heap.size+1) w.heap.size Tk) a.tmps (bR rd dd (.loop (cX fn a.tmps p assign body w.heap.size (stat cc) (lh j cc))) C cc))]) φ' k->
   Am.ak c (ai HE) φ3 k:=by
  intro HE hHE k ⟨h1,h2⟩;refine⟨?_,fun r hr hf=>h2 1 (by simp[ai]) (hHE r hr k hf)⟩;rcases h1 with h|h|h
  ·exact h.1
  ·exact .inr (.inl (Nat.le_trans hs2.fp h))
  ·exact .inr (hloan k h)
 have hS:Sat c (aO (jP rd dd (w.heap.size+1) w.heap.size Tk)) (ai (bR rd dd (.loop (cX fn a.tmps p assign body w.heap.size (stat cc) (lh j cc))) C cc)) a w3:=by
  refine⟨ε3,φ3,?_⟩
  constructor
  ·exact fun t d ht=>d.mono (k1 t d ht) (fun _ _=>rfl) (fun k hk _=>⟨hregE k4 k hk,rfl⟩)
  ·exact fun t d ht r hr=>cH (hTn _ _ _ _) r (jR ht r hr)
  ·exact fun r h hr=>h.mono (k2 r h hr) (fun _ _=>rfl) (fun k hk _=>⟨hregE k4 k hk,rfl⟩) (fun _ _=>rfl)
  ·exact mM (by
    show cp _ (iV (C cc))=true;exact hHn _ _)
  ·exact fun r hr k hk=>hF1 k (k4 r hr k hk)
  ·exact k3
  ·refine hs2.oL.trans ⟨hbel'.os,hbel'.tape,hbel'.output,hbel'.size,fun k hk hl=>hbel'.block k (Nat.lt_of_lt_of_le hk hs2.fp) (fun hf=>?_)⟩;rcases hloan k hf with h|h
   ·omega
   ·exact hl h
  ·exact hs.bs
  ·exact hs.sz
  ·exact hs.df
 obtain⟨hl3,hS4⟩:=oW (.loop {cX fn a.tmps p assign body w.heap.size (stat cc) (lh j cc)with state:=.exhausted}) hS (fun ε φ hs=>hs.t 2000000 _ rfl);refine⟨lh j cc,_,run_endLoop (P:=P) hl3 (by cases cc<;>simp[cX,stat]),?_⟩;have hdf:a.defers=[]:=hs.df;have hfin:=hQ (w.heap.size+1) w.heap.size _ {a with defers:=[mark w.heap.size]++a.defers} _ (by simp[hdf]) (by
  have e1:({({a with defers:=[mark w.heap.size]++a.defers}:Act)with defers:=[]}:Act)=a:=by
   cases a;simp only at hdf;subst hdf;rfl
  rw[e1];exact hS4)
 cases cc with
 |next s=>exact hfin
 |done r=>exact wpIn_exit hfin
def Ae(P:Program)(ds:List Deferred)(c:Ctx)(T:List (Nat×D))(H:List (Nat×Hp))(x:Code)(Q:Exit->Act->World->Prop):Prop:=
 ∀a w,a.defers=ds->Sat c (aO T) (ai H) {a with defers:=[]} w->x.wp P Q a w
theorem my(a:Act)(xs:List Deferred)(dst:Option Nat)(v:Value):({a with defers:=xs}:Act).put dst v={a.put dst v with defers:=xs}:=by cases dst<;>rfl
theorem zq{o:Oper}{a:Act}{xs ds:List Deferred}{next next':Act->World->Prop}{S:Act->World->Prop}{Q':Exit->Act->World->Prop}(hn:∀(b:Act) (ys:List Deferred) (w:World),next {b with defers:=ys} w->next' {b with defers:=ys++ds} w):∀{r:Result Next},o.upon P {a with defers:=xs} next (fun e a w=>e=.normal/\S a w) r->o.upon P {a with defers:=xs++ds} next' Q' r
 |.ok (.value v) w',h=>by
  rw[Oper.upon_value,my]at*;exact hn _ _ _ h
 |.ok .skip w',h=>by
  rw[Oper.upon_skip,my]at*;exact hn _ _ _ h
 |.ok (.defer d) w',h=>by
  rw[Oper.upon_defer]at*;exact(my a (d::(xs++ds)) o.dst undef)▸hn (a.put o.dst undef) (d::xs) w' ((my a (d::xs) o.dst undef)▸h)
 |.ok (.enter f args) w',h=>Calls.mono h fun e w'' hr=>by
   cases e with
   |returned v=>
    simp only at hr|-;rw[my]at*;exact hn _ _ _ hr
   |panicked chain=>exact absurd hr.1 (by simp)
   |outgrown=>obtain⟨a,w,he,_⟩:=hr;cases he
 |.ok (.row row args) w',h=>Rows.mono h fun v w'' hr=>by
   rw[my]at*;exact hn _ _ _ hr
 |.halt (.panic v) w',h=>absurd h.1 (by simp)
 |.ok (.round ..) _,h=>h.elim
theorem rL{ds:List Deferred}{ops:Array Oper}{S:Act->World->Prop}:∀(is:List Nat) (xs:List Deferred) (a:Act) (w:World),
  wpOps P ops (fun e a w=>e=.normal/\S a w) is {a with defers:=xs} w->wpOps P ops (fun e a w=>e=.normal/\∃ys,a.defers=ys++ds/\S {a with defers:=ys} w) is {a with defers:=xs++ds} w
 |[],xs,a,w,h=>⟨h.1,xs,rfl,h.2⟩
 |i::rest,xs,a,w,h=>by
  unfold wpOps at h|-;cases ho:ops[i]?with
  |none=>rw[ho]at h;exact rL rest xs a w h
  |some o=>
   rw[ho]at h;simp only at h|-
   split
   ·rename_i hw1;rw[if_pos hw1]at h;rcases h with h|h
    ·refine .inl ?_;unfold Oper.wp at h|-;have he:({a with defers:=xs}:Act).eval=({a with defers:=xs++ds}:Act).eval:=by funext x;cases x<;>rfl
     rw[he]at h;exact zq (fun b ys w hk=>rL rest ys b w hk) h
    ·obtain⟨_,a,w,he,_⟩:=h;cases he
   ·rename_i hw1;rw[if_neg hw1]at h;rw[my]at h|-;exact rL rest xs _ w h
theorem zN{ds:List Deferred}{ops:Array Oper}{c:Ctx}{T:List (Nat×D)}{H:List (Nat×Hp)}(is:List Nat)(a:Act)(w:World)(ha:a.defers=ds)
  (h:wpOps P ops (fun e a w=>e=.normal/\Sat c (aO T) (ai H) a w) is {a with defers:=[]} w):wpOps P ops (fun e a w=>e=.normal/\∃ys,a.defers=ys++ds/\Sat c (aO T) (ai H) {a with defers:=ys} w) is a w:=by
 have:=rL (ds:=ds) is [] a w h;have e:({a with defers:=[]++ds}:Act)=a:=by subst ha;rfl
 rw[e]at this;exact this
theorem jO.bT{c:Ctx}{T:List (Nat×D)}{H:List (Nat×Hp)}{Q:Exit->Act->World->Prop}{x y:Code}{o:Operand}{b:Bool}(h:ev T o=some (.bool b))(hb:b=true)(k:jO P c T H x Q):jO P c T H (.cond o x y) Q:=by subst hb;exact .cT h k
theorem jO.cC{c:Ctx}{T:List (Nat×D)}{H:List (Nat×Hp)}{Q:Exit->Act->World->Prop}{x y:Code}{o:Operand}{b:Bool}(h:ev T o=some (.bool b))(hb:¬b=true)(k:jO P c T H y Q):jO P c T H (.cond o x y) Q:=by
 have:b=false:=by simpa using hb
 subst this;exact .cF h k
theorem jO.on{c:Ctx}{T:List (Nat×D)}{H:List (Nat×Hp)}{Q:Exit->Act->World->Prop}{y:Code}(h:jO P c T H y Q):∀a w,Sat c (aO T) (ai H) a w->(Exit.then (fun a w=>∀l n,y.wpIn (FR l) n P Q a w) Q) .normal a w:=fun a w hs l n=>h l n a w hs
section
variable {ds:List Deferred} {c:Ctx} {T T':List (Nat×D)} {H H':List (Nat×Hp)} {Q:Exit->Act->World->Prop} {x y:Code} {id:Nat} {sps:List Spec}
theorem AA{c:Ctx}{T:List (Nat×D)}{H:List (Nat×Hp)}{a:Act}{ys:List Deferred}{w:World}(h:a.defers=ys++ds)(hs:Sat c (aO T) (ai H) {a with defers:=ys} w):a.defers=ds/\Sat c (aO T) (ai H) {a with defers:=[]} w:=by
 obtain⟨ε,φ,hs0⟩:=hs;have:ys=[]:=hs0.df;subst this;exact⟨h,ε,φ,hs0⟩
theorem Ae.cJ{l:List Oper}(hm:P.follows .mixedOrders=true)(h:aj P l.toArray c l T H sps T' H')(hd:dZ c.n l=true)(hord:kZ [] [] 0 (l.zip sps)=true)(hQ:∀a w,a.defers=ds->Sat c (aO T') (ai H') {a with defers:=[]} w->Q .normal a w):Ae P ds c T H (.region id l.toArray true) Q:=by
 intro a w ha hs;refine wp_mono (wp_region_draw (fun t=>zN (c:=c) (T:=T') (H:=H') _ a _ ha ?_)) ?_
 ·simp only[Region.schedule,hm,Bool.true_or,if_true];exact wpAny_sound l.toArray.size t _ _ _ (h.qE hd hord (Q:=fun e a w=>e=.normal/\Sat c (aO T') (ai H') a w) (fun a w hs=>⟨rfl,hs⟩) _ w hs)
 ·rintro e a w ⟨rfl,ys,h1,h2⟩;obtain⟨h3,h4⟩:=AA h1 h2;exact hQ a w h3 h4
theorem Ae.cn{l:List Oper}(hm:P.follows .mixedOrders=true)(h:aj P l.toArray c l T H sps T' H')(hd:dZ c.n l=true)(hord:kZ [] [] 0 (l.zip sps)=true)(hy:Ae P ds c T' H' y Q):Ae P ds c T H (.seq (.region id l.toArray true) y) Q:=
 fun a w ha hs=>wp_seq (Ae.cJ hm h hd hord (fun a w ha hs=>hy a w ha hs) a w ha hs)
theorem Sat.Cd{fn:Func}{xs:List ResultVar}{dl:List D}{d:D}{Hi Ho:List (Nat×Hp)}{b:Nat->Value}{dd D0 n:Nat}{a:Act}{w:World}(hd:a.defers=[mark D0])(hs:Sat c (aO T) (ai ((dd,.obj (.deferred (some [])))::H)) {a with defers:=[]} w)
  (hpin:∀ε φ,cf c (aO T) (ai ((dd,.obj (.deferred (some [])))::H)) {a with defers:=[]} w ε φ->ε dd=ptrTo D0)(hx:fn.results=xs.toArray)(h:sR P c T ((dd,.obj (.deferred none))::H) xs dl)(hle:Le (x_ dl) d)(hT:gG T (pins b (names Hi)))(hH:jw ((dd,.obj (.deferred none))::H) Ho):
  bodyPostM Fence.wide n P fn (wc c Hi Ho b d) .ret a w:=by
 obtain⟨hD,hS⟩:=oW (.deferred none) hs hpin;obtain⟨_,v,hv,hR⟩:=Sat.aF hx h hle hT hH _ _ hS;show LeavesInM _ _ P fn a.tmps _ a.defers .returning w;rw[hd];exact⟨by simp,.inl ⟨D0,_,rfl,run_takeDeferred hD,v,hv,hR⟩⟩
theorem sV{fn:Func}{R:Ending->World->Prop}{n:Nat}:∀a w,bodyPost P fn R .ret a w->bodyPostM Fence.wide n P fn R .ret a w:=by
 rintro a w ⟨ha,v,hv,hR⟩;show LeavesInM _ _ P fn a.tmps _ a.defers .returning w;rw[ha];exact⟨v,hv,hR⟩
end
theorem bb.ofM{f:FuncId}{fn:Func}{x:Code}{Hi Ho:List (Nat×Hp)}{ds:List D}{d:D}(hf:P.funcs[f]?=some fn)(hb:fn.body=some x)(hok:l8 P f=true)(hd:cp Hi (bF ds)=true)(hni:cp Hi (iV Hi)=true)(hno:cp Ho (iV Ho)=true)(hnr:cp Ho d.nm=true)(hk:cp Ho (names Hi)=true)
  (hl:Nat.ble ds.length fn.ntmps=true)(h:∀A w0 L b,Ok P ⟨A,w0.heap.size,w0,fn.ntmps,L⟩ (frame 0 ds++pins b (names Hi)) Hi x (bodyPostM Fence.wide 0 P fn (wc ⟨A,w0.heap.size,w0,fn.ntmps,L⟩ Hi Ho b d))):bb P f Hi ds Ho d where
 ok:=hok
 BJ:=hd
 BY:=hni
 BD:=hno
 A2:=hnr
 rR:=hk
 calls:=by
  intro A w ε φ vs hlo hdj hp hv;refine Calls.mono (callsIn_wide.1 (callsIn_of_wp_marks hf hb trivial (wpIn_wide.2 (h A w (ld Hi φ) ε _ _ ⟨ε,φ,?_⟩)))) (fun e w' ⟨v,ε',φ',e',hε,hB⟩=>⟨v,ε',φ',e',hε,hB⟩);have hlen:=aS hv;have hl':=Nat.le_of_ble_eq_true hl;have hreg:∀k,A k->k<w.heap.size->ak ⟨A,w.heap.size,w,fn.ntmps,ld Hi φ⟩ (ai Hi) φ k/\w.heap[k]?=w.heap[k]?:=fun k hk _=>⟨⟨.inl hk,fun r hr hf=>(hlo r hr k hf).1 hk⟩,rfl⟩
  constructor
  ·intro t d' ht;rcases ga ht with ht|ht
   ·obtain⟨j,v,e,hj,hp,_⟩:=ec hv ht;have hjl:j<vs.length:=(List.getElem?_eq_some_iff.1 hj).1;have:(vs.toArray++Array.replicate (fn.ntmps-vs.toArray.size) undef).getD t undef=v:=by
     simp only[Nat.zero_add]at e;subst e;simp[Array.getD_eq_getD_getElem?,Array.getElem?_append,hjl];have:=(List.getElem?_eq_some_iff.1 hj).2;exact this
    rw[this];exact d'.mono hp (fun _ _=>rfl) hreg
   ·obtain⟨r,_,_,rfl⟩:=iE ht
    rfl
  ·intro t d' ht r hr;rcases ga ht with ht|ht
   ·obtain⟨_,_,_,_,_,hm⟩:=ec hv ht;exact cH hd r (bM.2 ⟨d',hm,hr⟩)
   ·obtain⟨r',hr',_,rfl⟩:=iE ht;have:r=r':=by simpa [D.pinned]using hr
    subst this;exact bW.2 hr'
  ·exact fun r y hy=>y.mono (hp r y hy) (fun _ _=>rfl) hreg (fun _ _=>rfl)
  ·exact mM hni
  ·exact fun r hr k hk=>⟨.inr ⟨r,hr,hk⟩,(hlo r hr k hk).2⟩
  ·exact hdj
  ·exact .of (Below.refl _ _)
  ·rfl
  ·simp[hlen];omega
  ·rfl
end
end Go.Am
namespace Go.Am
end Go.Am
namespace Go.Am
def better(a c b:Rat):Prop:=gx (c-a)<gx (b-a)\/(gx (c-a)=gx (b-a)/\(c.den<b.den\/(c.den=b.den/\c<b)))
def uk(a:Rat)(n:Nat)(r:Rat):Prop:=r.den<=n/\∀y:Rat,y.den<=n->¬better a y r
theorem eR{a x y z:Rat}(h1:¬better a z y)(h2:¬better a y x):¬better a z x:=by
 unfold better at*;generalize gx (x-a)=u at*;generalize gx (y-a)=v at*;generalize gx (z-a)=w at*;generalize x.den=d at*;generalize y.den=e at*;generalize z.den=f at*
 grind
theorem ml(a x:Rat):¬better a x x:=by unfold better;grind
theorem tL{a x y:Rat}(h:better a x y):¬better a y x:=by
 unfold better at*;generalize gx (x-a)=u at*;generalize gx (y-a)=v at*;generalize x.den=d at*;generalize y.den=e at*
 grind
theorem uH{a x y:Rat}(h1:¬better a x y)(h2:¬better a y x):x=y:=by
 unfold better at*;generalize gx (x-a)=u at*;generalize gx (y-a)=v at*;generalize x.den=d at*;generalize y.den=e at*
 grind
theorem rq{a:Rat}{n:Nat}{r s:Rat}(h:uk a n r)(k:uk a n s):r=s:=uH (k.2 r h.1) (h.2 s k.1)
theorem yB{a z l:Rat}(h:z<=l)(k:l<=a):¬better a z l:=by
 unfold better gx
 grind
theorem ya{a z r:Rat}(h:r<=z)(k:a<=r):¬better a z r:=by
 unfold better gx
 grind
theorem vd{m y:Int}{d q:Int}(hd:0<d)(hq:0<q):((y:Rat)/(q:Rat)<(m:Rat)/(d:Rat))↔y*d<m*q:=by
 have hd':(0:Rat)<(d:Rat):=by exact_mod_cast hd
 have hq':(0:Rat)<(q:Rat):=by exact_mod_cast hq
 rw[Rat.div_lt_iff hq',show(m:Rat)/(d:Rat)*(q:Rat)=((m:Rat)*(q:Rat))/(d:Rat)by grind,Rat.lt_div_iff hd']
 exact_mod_cast Iff.rfl
theorem oX(z:Rat):((z.num:Int):Rat)/(((z.den:Nat):Int):Rat)=z:=by
 have:=Rat.mkRat_self z;rw[Rat.mkRat_eq_div]at this;exact this
theorem Bn{l1 d1 r1 d2 most:Int}(h1:0<d1)(h2:0<d2)(hdet:r1*d1-l1*d2=1)(hm:most<d1+d2)(z:Rat)(hz:(z.den:Int)<=most):z<=(l1:Rat)/(d1:Rat)\/(r1:Rat)/(d2:Rat)<=z:=by
 by_cases c1:z<=(l1:Rat)/(d1:Rat)
 ·exact .inl c1
 by_cases c2:(r1:Rat)/(d2:Rat)<=z
 ·exact .inr c2
 exfalso
 have c1:=Rat.not_le.1 c1;have c2:=Rat.not_le.1 c2;have hzd:0<(z.den:Int):=by have:=z.den_nz;omega
 rw[←oX z]at c1 c2;rw[vd hzd h1]at c1;rw[vd h2 hzd]at c2;generalize (z.den:Int)=d at*;generalize z.num=m at*;have e1:1*d2<=(m*d1-l1*d)*d2:=Int.mul_le_mul_of_nonneg_right (by omega) (by omega);have e2:1*d1<=(r1*d-m*d2)*d1:=Int.mul_le_mul_of_nonneg_right (by omega) (by omega);have e3:(m*d1-l1*d)*d2+(r1*d-m*d2)*d1=d:=by
  have:(m*d1-l1*d)*d2+(r1*d-m*d2)*d1=d*(r1*d1-l1*d2):=by grind
  rw[this,hdet];omega
 omega
theorem uf{l d:Int}(h:0<d):(((l:Rat)/(d:Rat)).den:Int)<=d:=by
 obtain⟨n,rfl⟩:=Int.eq_ofNat_of_zero_le (Int.le_of_lt h);have e:((l:Rat)/(((n:Nat):Int):Rat))=mkRat l n:=by rw[Rat.mkRat_eq_div];rfl
 rw[e];have hn:n≠0:=by omega
 have:=gV l n hn;omega
theorem vh{a:Rat}{l1 d1 r1 d2 most:Int}(h1:0<d1)(h2:0<d2)(hd1:d1<=most)(hd2:d2<=most)(hdet:r1*d1-l1*d2=1)(hm:most<d1+d2)(ha:(l1:Rat)/(d1:Rat)<=a)(hb:a<=(r1:Rat)/(d2:Rat)){r:Rat}
  (hr:r=(l1:Rat)/(d1:Rat)\/r=(r1:Rat)/(d2:Rat))(k1:¬better a ((l1:Rat)/(d1:Rat)) r)(k2:¬better a ((r1:Rat)/(d2:Rat)) r):uk a most.toNat r:=by
 have e1:=uf (l:=l1) h1;have e2:=uf (l:=r1) h2;refine⟨by rcases hr with rfl|rfl<;>omega,fun y hy=>?_⟩;rcases Bn h1 h2 hdet hm y (by omega)with h|h
 ·exact eR (yB h ha) k1
 ·exact eR (ya h hb) k2
theorem y7{x y:Rat}:fV x y<0↔x<y:=by unfold fV;grind
theorem wz{x y:Rat}:fV x y=0↔x=y:=by unfold fV;grind
theorem pn(a c b:Rat):closer a c b=true↔better a c b:=by
 unfold closer better fK;simp only[Bool.or_eq_true,Bool.and_eq_true,decide_eq_true_eq,beq_iff_eq,y7,wz];have h1:(if c.den<b.den then(-1:Int)else if b.den<c.den then 1 else 0)<0↔c.den<b.den:=by grind
 have h2:(if c.den<b.den then(-1:Int)else if b.den<c.den then 1 else 0)=0↔c.den=b.den:=by grind
 rw[h1,h2]
theorem pR(a:Rat)(n j:Nat)(b:Rat):¬better a b (jD a n j b)/\¬better a (mkRat ((a*(n:Int)).floor+(j:Int)) n) (jD a n j b)/\(jD a n j b=b\/jD a n j b=mkRat ((a*(n:Int)).floor+(j:Int)) n):=by
 unfold jD;by_cases h:closer a (mkRat ((a*(n:Int)).floor+(j:Int)) n) b=true
 ·rw[if_pos h];exact⟨tL ((pn _ _ _).1 h),ml _ _,.inr rfl⟩
 ·rw[if_neg h];exact⟨ml _ _,fun hb=>h ((pn _ _ _).2 hb),.inl rfl⟩
theorem p8(a:Rat):∀n:Nat,(kA a n).den<=max 1 n/\∀y:Rat,y.den<=n->¬better a y (kA a n)
 |0=>⟨by show((a.floor:Int):Rat).den<=1;rw[Rat.den_intCast];exact Nat.le_refl _,fun y hy=>absurd hy (by have:=y.den_nz;omega)⟩
 |n+1=>by
  obtain⟨h1,h2⟩:=p8 a n;obtain⟨a1,a2,a3⟩:=pR a (n+1) 0 (kA a n);obtain⟨b1,b2,b3⟩:=pR a (n+1) 1 (jD a (n+1) 0 (kA a n));show(jD a (n+1) 1 (jD a (n+1) 0 (kA a n))).den<=_/\∀y:Rat,y.den<=n+1->¬better a y (jD a (n+1) 1 (jD a (n+1) 0 (kA a n)));generalize hr1:jD a (n+1) 0 (kA a n)=r1 at*;generalize hr2:jD a (n+1) 1 r1=r2 at*;generalize kA a n=r0 at*;have hd:∀j:Int,(mkRat ((a*((n+1:Nat):Int)).floor+j) (n+1)).den<=n+1:=fun j=>gV _ _ (by omega);refine⟨?_,fun y hy=>?_⟩
  ·have:=hd 0;have:=hd 1;have h5:r1.den<=max 1 (n+1):=by
    rcases a3 with h|h
    ·rw[h];omega
    ·rw[h];have:=hd ((0:Nat):Int);omega
   rcases b3 with h|h
   ·rw[h];exact h5
   ·rw[h];have:=hd ((1:Nat):Int);omega
  ·by_cases hyn:y.den<=n
   ·exact eR (eR (h2 y hyn) a1) b1
   ·have hyd:y.den=n+1:=by omega
    have hn0:(0:Rat)<((n+1:Nat):Int):=by exact_mod_cast (by omega:(0:Int)<((n+1:Nat):Int))
    have ey:y=(y.num:Rat)/(((n+1:Nat):Int):Rat):=by rw[←hyd];exact(oX y).symm
    have hm:∀z:Int,mkRat z (n+1)=(z:Rat)/(((n+1:Nat):Int):Rat):=fun z=>by rw[Rat.mkRat_eq_div];rfl
    have hlo:=Rat.floor_le (a*((n+1:Nat):Int));have hhi:=Rat.lt_floor_add_one (a*((n+1:Nat):Int));generalize hF:(a*((n+1:Nat):Int)).floor=F at*;have div_le:∀u v:Rat,u<=v->u/(((n+1:Nat):Int):Rat)<=v/(((n+1:Nat):Int):Rat):=fun u v h=>Rat.not_lt.1 (fun h2=>by
     rw[Rat.div_lt_iff hn0,Rat.div_mul_cancel (by grind)]at h2;exact absurd h2 (Rat.not_lt.2 h))
    have ea:a=(a*((n+1:Nat):Int))/(((n+1:Nat):Int):Rat):=by rw[Rat.mul_div_cancel (by grind)]
    by_cases hc:y.num<=F
    ·refine eR (eR (yB (l:=mkRat (F+((0:Nat):Int)) (n+1)) ?_ ?_) a2) b1
     ·rw[ey,hm];apply div_le;exact_mod_cast (by omega)
     ·rw[hm];rw[ea];apply div_le;rw[show F+((0:Nat):Int)=F by omega];exact hlo
    ·refine eR (ya (r:=mkRat (F+((1:Nat):Int)) (n+1)) ?_ ?_) b2
     ·rw[ey,hm];apply div_le;exact_mod_cast (by omega)
     ·rw[hm];rw[ea];apply div_le;exact Rat.le_of_lt hhi
theorem pK(a:Rat)(n:Nat)(h:1<=n):uk a n (kA a n):=by
 have:=p8 a n;exact⟨by have:=this.1;omega,this.2⟩
structure CF(a:Rat)(most:Int)(t:Rat)(p q lp lq:Int):Prop where
 hq:0<=q
 wW:0<=lq
 mq:q<=most
 B4:lq<=most
 BW:p*lq-lp*q=1\/p*lq-lp*q=-1
 rel:a*(t*(q:Rat)+(lq:Rat))=t*(p:Rat)+(lp:Rat)
 one:(q=0/\lq=1)\/(1<=q/\1<=t)
theorem xo(a:Rat)(most:Int)(h:1<=most):CF a most a 1 0 0 1 where
 hq:=by omega
 wW:=by omega
 mq:=by omega
 B4:=h
 BW:=.inl (by omega)
 rel:=by simp;grind
 one:=.inl ⟨rfl,rfl⟩
theorem zz{a:Rat}{most:Int}{t:Rat}{p q lp lq:Int}(h:CF a most t p q lp lq)(hm:t.floor*q+lq<=most)(ht:t-(t.floor:Rat)≠0):CF a most (1/(t-(t.floor:Rat))) (t.floor*p+lp) (t.floor*q+lq) p q:=by
 have h1:=Rat.floor_le t;have h2:=Rat.lt_floor_add_one t;have h2':t-(t.floor:Rat)<1:=by
  have:((t.floor+1:Int):Rat)=(t.floor:Rat)+1:=by simp
  rw[this]at h2;grind
 have hpos:0<t-(t.floor:Rat):=by grind
 have hq1:1<=t.floor*q+lq:=by
  rcases h.one with⟨e1,e2⟩|⟨e1,e2⟩
  ·rw[e1,e2];omega
  ·have h3:1<=t.floor:=Rat.le_floor_iff.2 (by simpa using e2);have h4:1*q<=t.floor*q:=Int.mul_le_mul_of_nonneg_right h3 h.hq;have:=h.wW;omega
 generalize hf:t.floor=n at*;refine⟨by omega,h.hq,hm,h.mq,?_,?_,.inr ⟨hq1,?_⟩⟩
 ·rcases h.BW with e|e
  ·right;grind
  ·left;grind
 ·have hr:=h.rel;have e1:((n*q+lq:Int):Rat)=(n:Rat)*q+lq:=by simp
  have e2:((n*p+lp:Int):Rat)=(n:Rat)*p+lp:=by simp
  rw[e1,e2];have hu:(1/(t-(n:Rat)))*(t-(n:Rat))=1:=Rat.div_mul_cancel ht;generalize 1/(t-(n:Rat))=u at*
  grind
 ·have hu:(1/(t-(n:Rat)))*(t-(n:Rat))=1:=Rat.div_mul_cancel ht;rw[show(1:Rat)<=1/(t-(n:Rat))↔1*(t-(n:Rat))<=1 by
   constructor
   ·intro h;grind
   ·intro _;exact Rat.not_lt.1 (fun h3=>by rw[Rat.div_lt_iff hpos]at h3;grind)]
  grind
theorem xe{a:Rat}{most:Int}{t:Rat}{p q lp lq k:Int}(hmost:1<=most)(h:CF a most t p q lp lq)(hm:most<t.floor*q+lq)(hk:k=(((most:Rat)-(lq:Rat))/(q:Rat)).floor):
  1<=q/\1<=k*q+lq/\k*q+lq<=most/\∀r,(r=((k*p+lp:Int):Rat)/((k*q+lq:Int):Rat)\/r=(p:Rat)/(q:Rat))->¬better a (((k*p+lp:Int):Rat)/((k*q+lq:Int):Rat)) r->¬better a ((p:Rat)/(q:Rat)) r->uk a most.toNat r:=by
 rcases h.one with⟨e1,e2⟩|⟨hq1,ht⟩
 ·exfalso;rw[e1,e2]at hm;omega
 have hqr:(0:Rat)<(q:Rat):=by exact_mod_cast (by omega:(0:Int)<q)
 have hlo:k*q<=most-lq:=by
  have h1:=Rat.floor_le (((most:Rat)-(lq:Rat))/(q:Rat));rw[←hk]at h1;have h2:¬(((most:Rat)-(lq:Rat))/(q:Rat)<(k:Rat)):=Rat.not_lt.2 h1;rw[Rat.div_lt_iff hqr]at h2;have h3:=Rat.not_lt.1 h2
  exact_mod_cast h3
 have hhi:most-lq<(k+1)*q:=by
  have h1:=Rat.lt_floor_add_one (((most:Rat)-(lq:Rat))/(q:Rat));rw[←hk,Rat.div_lt_iff hqr]at h1
  exact_mod_cast h1
 have hkn:k<t.floor:=by
  apply Int.lt_of_not_ge;intro h1;have:=Int.mul_le_mul_of_nonneg_right h1 h.hq;omega
 have hk0:0<=k:=by
  apply Int.le_of_not_gt;intro h1;have h2:(k+1)*q<=0*q:=Int.mul_le_mul_of_nonneg_right (by omega) h.hq;have:=h.B4;omega
 have e1:(k+1)*q=k*q+q:=by grind
 have hkq:0<=k*q:=Int.mul_nonneg hk0 h.hq;have wW:=h.wW;have hmq:=h.mq;have hD:1<=k*q+lq:=by omega
 refine⟨hq1,hD,by omega,fun r hr k1 k2=>?_⟩;have htn:(t.floor:Rat)<=t:=Rat.floor_le t;have hkt:(k:Rat)<t:=by
  have:(k:Rat)<(t.floor:Rat):=by exact_mod_cast hkn
  grind
 have hDr:(0:Rat)<((k*q+lq:Int):Rat):=by exact_mod_cast (by omega:(0:Int)<k*q+lq)
 have hlqr:(0:Rat)<=(lq:Rat):=by exact_mod_cast wW
 have hW:0<t*(q:Rat)+(lq:Rat):=by
  have:0<t*(q:Rat):=Rat.mul_pos (by grind) hqr
  grind
 have hrel:=h.rel;have f1:(a*q-p)*(t*q+lq)=-((p*lq-lp*q:Int):Rat):=by
  have:((p*lq-lp*q:Int):Rat)=(p:Rat)*lq-lp*q:=by simp
  rw[this];grind
 have f2:(a*((k*q+lq:Int):Rat)-((k*p+lp:Int):Rat))*(t*q+lq)=(t-k)*((p*lq-lp*q:Int):Rat):=by
  have:((p*lq-lp*q:Int):Rat)=(p:Rat)*lq-lp*q:=by simp
  rw[this];have e2:((k*q+lq:Int):Rat)=(k:Rat)*q+lq:=by simp
  have e3:((k*p+lp:Int):Rat)=(k:Rat)*p+lp:=by simp
  rw[e2,e3];grind
 have sgn_pos:∀u:Rat,0<u*(t*q+lq)->0<u:=fun u hu=>Rat.not_le.1 (fun hc=>by
  have:=Rat.mul_le_mul_of_nonneg_right hc (Rat.le_of_lt hW)
  grind)
 rcases h.BW with hdet|hdet
 ·-- x < a < y
  rw[hdet]at f1 f2;have g1:0< -(a*q-p):=sgn_pos _ (by grind);have g2:0<a*((k*q+lq:Int):Rat)-((k*p+lp:Int):Rat):=sgn_pos _ (by rw[f2];simp;grind);refine vh (l1:=k*p+lp) (d1:=k*q+lq) (r1:=p) (d2:=q) (by omega) (by omega) (by omega) hmq (by grind) (by omega) ?_ ?_ hr k1 k2
  ·exact Rat.not_lt.1 (fun hc=>by rw[Rat.lt_div_iff hDr]at hc;grind)
  ·exact Rat.not_lt.1 (fun hc=>by rw[Rat.div_lt_iff hqr]at hc;grind)
 ·rw[hdet]at f1 f2;have g1:0<a*q-p:=sgn_pos _ (by rw[f1];simp;grind);have g2:0< -(a*((k*q+lq:Int):Rat)-((k*p+lp:Int):Rat)):=sgn_pos _ (by rw[Rat.neg_mul,f2];simp;grind);refine vh (l1:=p) (d1:=q) (r1:=k*p+lp) (d2:=k*q+lq) (by omega) (by omega) hmq (by omega) (by grind) (by omega) ?_ ?_ hr.symm k2 k1
  ·exact Rat.not_lt.1 (fun hc=>by rw[Rat.lt_div_iff hqr]at hc;grind)
  ·exact Rat.not_lt.1 (fun hc=>by rw[Rat.div_lt_iff hDr]at hc;grind)
theorem Az{a:Rat}{most:Int}{t:Rat}{p q lp lq:Int}(h:CF a most t p q lp lq)(hm:t.floor*q+lq<=most)(ht:t-(t.floor:Rat)=0):(a.den:Int)<=most:=by
 have hq1:1<=t.floor*q+lq:=by
  rcases h.one with⟨e1,e2⟩|⟨e1,e2⟩
  ·rw[e1,e2];omega
  ·have h3:1<=t.floor:=Rat.le_floor_iff.2 (by simpa using e2);have h4:1*q<=t.floor*q:=Int.mul_le_mul_of_nonneg_right h3 h.hq;have:=h.wW;omega
 have e:a=((t.floor*p+lp:Int):Rat)/((t.floor*q+lq:Int):Rat):=by
  have hr:=h.rel;have ht':t=(t.floor:Rat):=by grind
  have e1:((t.floor*q+lq:Int):Rat)=t*q+lq:=by
   have:((t.floor*q+lq:Int):Rat)=(t.floor:Rat)*q+lq:=by simp
   rw[this,←ht']
  have e2:((t.floor*p+lp:Int):Rat)=t*p+lp:=by
   have:((t.floor*p+lp:Int):Rat)=(t.floor:Rat)*p+lp:=by simp
   rw[this,←ht']
  have hne:((t.floor*q+lq:Int):Rat)≠0:=by
   have:(0:Rat)<((t.floor*q+lq:Int):Rat):=by exact_mod_cast (by omega:(0:Int)<t.floor*q+lq)
   grind
  rw[e1]at hne|-;rw[e2,←hr,Rat.mul_div_cancel hne]
 have:=uf (l:=t.floor*p+lp) (d:=t.floor*q+lq) (by omega);rw[←e]at this;omega
end Go.Am
namespace Go.Am
open Go.RowKit
set_option maxRecDepth 100000
noncomputable section
section
variable {P:Program} {n:Nat} {c:Ctx} {T T':List (Nat×D)} {H H':List (Nat×Hp)} {Q:Exit->Act->World->Prop} {ops:Array Oper}
theorem wV{o:Oper}{a:Act}{next next':Act->World->Prop}(hn:∀a w,next a w->next' a w):∀{r:Result Next},o.upon P a next Q r->o.uponIn Fence.wide n P a next' Q r
 |.ok (.value v) w',h=>hn _ _ h
 |.ok .skip w',h=>hn _ _ h
 |.ok (.defer d) w',h=>hn _ _ h
 |.ok (.enter f args) w',h=>⟨fun hd=>(by simp[Fence.wide]at hd),callsIn_wide.2 (Calls.mono h fun e w'' hr=>by
   cases e with
   |returned v=>exact hn _ _ hr
   |panicked chain=>exact hr
   |outgrown=>exact hr)⟩
 |.ok (.row row args) w',h=>⟨fun hd=>(by simp[Fence.wide]at hd),fun c cs _=>let⟨v,w',r,s⟩:=h c cs;⟨v,w',hn _ _ r,stepsIn_wide.2 s⟩⟩
 |.halt (.panic v) w',h=>h
 |.ok (.round ..) _,h=>h.elim
theorem qX{l:List Oper}{sps:List Spec}(h:aj P ops c l T H sps T' H'):∀(k:Nat) (rest:List Nat),(∀i,i<l.length->ops[k+i]?=l[i]?)->gO l=true->dZ c.n l=true->
  (∀a w,Sat c (aO T') (ai H') a w->wpOpsIn Fence.wide n P ops Q rest a w)->∀a w,Sat c (aO T) (ai H) a w->wpOpsIn Fence.wide n P ops Q (List.range' k l.length++rest) a w:=by
 induction h with
 |nil=>exact fun k rest _ _ _ hk a w hs=>hk a w hs
 |@cons o os T H sp sps T' H' hs hi hh hn _ ih=>
  intro k rest hops hnd hd hk a w hsat;obtain⟨h1,h2⟩:=k_ hd;have ho:ops[k]?=some o:=by have:=hops 0 (by simp);simpa using this
  have hnd0:=ly hnd 0 o (by simp);have hnd1:gO os=true:=by
   unfold gO at hnd|-;rw[List.all_cons,Bool.and_eq_true]at hnd;exact hnd.2
  have:=hs h1 (aO T) (ai H) hi hh hn a w hsat Q (wpOpsIn Fence.wide n P ops Q (List.range' (k+1) os.length++rest)) (fun a' w' hs'=>ih (k+1) rest (fun i hi=>by
   have:=hops (i+1) (by simp;omega);rw[show k+1+i=k+(i+1)by omega,this];simp) hnd1 h2 hk a' w' (by rw[fX,bu]at hs';exact hs'))
  rw[List.length_cons,List.range'_succ,List.cons_append];unfold wpOpsIn;rw[ho];simp only
  split
  ·rename_i hw;rw[if_pos hw]at this;refine⟨fun _ _=>trivial,?_⟩;rw[Oper.semAt_eq _ _ _ hnd0];exact wV (fun _ _ h=>h) this
  ·rename_i hw;rw[if_neg hw]at this;exact⟨fun _ _=>trivial,this⟩
theorem ta{id:Nat}{pre post:List Oper}{o:Oper}{T1 T2 T3:List (Nat×D)}{H1 H2 H3:List (Nat×Hp)}{sps sps2:List Spec}(hpre:aj P (pre++o::post).toArray c pre T H sps T1 H1)(hn1:gO pre=true)(hd1:dZ c.n pre=true)
  (hg:o.guard=none)(ho:∀a w (K:Act->World->Prop),(∀a' w',Sat c (aO T2) (ai H2) a' w'->K a' w')->Sat c (aO T1) (ai H1) a w->o.wpIn Fence.wide n P a w K Q)
  (hpost:aj P (pre++o::post).toArray c post T2 H2 sps2 T3 H3)(hn2:gO post=true)(hd2:dZ c.n post=true)(hQ:∀a w,Sat c (aO T3) (ai H3) a w->Q .normal a w):Ok P c T H (.region id (pre++o::post).toArray false) Q:=by
 intro a w hs;refine(wpIn_wide (n:=n)).1 (wpIn_region ?_);have e1:List.range (pre++o::post).toArray.size=List.range' 0 pre.length++(pre.length::(List.range' (pre.length+1) post.length++[])):=by
  rw[List.range_eq_range',List.append_nil];have:(pre++o::post).toArray.size=pre.length+(post.length+1):=by simp
  rw[this,←List.range'_append_1,List.range'_succ,Nat.zero_add]
 rw[e1];refine qX hpre 0 _ (fun i hi=>by simp[List.getElem?_append_left hi]) hn1 hd1 (fun a w hs=>?_) a w hs;unfold wpOpsIn;have e2:(pre++o::post).toArray[pre.length]?=some o:=by simp
 rw[e2];simp only;rw[if_pos (a_ hg _)];refine ho a w _ (fun a' w' hs'=>?_) hs;refine qX hpost _ _ (fun i hi=>?_) hn2 hd2 (fun a w hs=>?_) a' w' hs'
 ·rw[List.getElem?_toArray,List.getElem?_append_right (by omega),show pre.length+1+i-pre.length=i+1 by omega,List.getElem?_cons_succ]
 ·exact hQ a w hs
theorem sQ{σ ρ α:Type}{l:Nat}{TC:List (Nat×D)}{tm:Array Value}{C:St σ ρ->List (Nat×Hp)}{dx:α->D}{step:σ->α->Option (St σ ρ)}{s:σ}{x0:α}{st:St σ ρ}{id nc:Nat}{pre post:List Oper}{x y:Operand}{dst:Option Nat}{ty:TypeId}{pos:String}{aft:Array Edge}{ats:Array TypeId}{T1 T3:List (Nat×D)}{H1 H3:List (Nat×Hp)}{sps sps2:List Spec}
  (hY:n_ P l TC tm C dx step)(hst:step s x0=some st)(hdx:(dx x0).nm=[])
  (hpre:aj P (pre++⟨dst,.call {callee:=.value x,args:=#[y],argTypes:=ats},ty,pos,aft,none⟩::post).toArray c pre T H sps T1 H1)
  (hx:ev T1 x=some (.lit (.func (.yield l) #[] #[])))(hy:ev T1 y=some (dx x0))(hH:ai H1 nc=some (.caller TC tm (C (.next s))))
  (hpost:aj P (pre++⟨dst,.call {callee:=.value x,args:=#[y],argTypes:=ats},ty,pos,aft,none⟩::post).toArray c post (bf T1 dst (.bool (mD st))) ((nc,.caller TC tm (C st))::H1) sps2 T3 H3)
  (hn1:gO pre=true)(hn2:gO post=true)(hd1:dZ c.n pre=true)(hd2:dZ c.n post=true)(hd:∀t,dst=some t->t<c.n)
  (hQ:∀a w,Sat c (aO T3) (ai H3) a w->Q .normal a w):Ok P c T H (.region id (pre++⟨dst,.call {callee:=.value x,args:=#[y],argTypes:=ats},ty,pos,aft,none⟩::post).toArray false) Q:=
 ta (n:=0) hpre hn1 hd1 rfl (fun _ _ _ hK hs=>yl hY hst hx hy hdx hH hd hK hs) hpost hn2 hd2 hQ
end
theorem tw(a:Rat):bb PP 163 [] [qD a] [(1,Hp.box 28 (qC a))] (.nH 223 [] [.ref 1 0]):=by
 refine .of Go.Proofs.Tryz.func163 rfl (by kernel_rfl) rfl rfl rfl rfl rfl rfl (fun A w0 L b=>?_);show Ok PP _ [(0,qD a)] [] _ _;refine .ak (.iL rfl rfl<|.av rfl<|.nil) rfl ?_;refine .ak (.Cl (l:=[]) (m:=[.ref 1 0]) trivial ⟨rfl,trivial⟩<|.av rfl<|.nil) rfl ?_;exact .aF (fun _ _ hb=>hb) rfl (.cons (.tmp rfl) .nil) (.refl _) trivial (.of rfl)
def j9{σ ρ:Type}(step:σ->Rat->Option (St σ ρ))(x:Rat×σ):Option (St (Rat×σ) (Rat×St σ ρ)):=
 (i3 x.1).bind fun n=>(step x.2 n).bind fun st=>match st with
  |.done r=>some (.done (x.1,.done r))
  |.next s=>(gR x.1 n).bind fun a=>(cq a).bind fun g=>if(g==0)=true then some (.done (a,.next s))else(aT 1).bind fun one=>(cK one a).bind fun b=>some (.next (b,s))
theorem xc(d:D):Le d .any:=⟨fun _ _ _ _ _=>trivial,fun r hr=>by cases hr⟩
theorem A7{σ ρ:Type}{l:Nat}{T:List (Nat×D)}{tm:Array Value}{C:St σ ρ->List (Nat×Hp)}{step:σ->Rat->Option (St σ ρ)}(hY:n_ PP l T tm C qD step){a aE:Rat}{s0:σ}{cc:St σ ρ}(h:Loop (j9 step) (a,s0)=some (aE,cc)):
  bb PP 223 [(0,.box 28 (qC a)),(1,.caller T tm (C (.next s0)))] [.lit (.func (.yield l) #[] #[]),.ref 0 0] [(0,.box 28 (qC aE)),(1,.caller T tm (C cc))] .any:=by
 refine .of Go.Proofs.Tryz.func223 rfl (by kernel_rfl) rfl rfl rfl rfl rfl rfl (fun A w0 L b=>?_);show Ok PP _ [(0,.lit (.func (.yield l) #[] #[])),(1,.ref 0 0),(1000000,.pinned 0 (b 0)),(1000001,.pinned 1 (b 1))] [(0,.box 28 (qC a)),(1,.caller T tm (C (.next s0)))] _ _;refine .block (.cY (fun(s:Rat×σ)=>[(0,D.lit (.func (.yield l) #[] #[])),(1,D.ref 0 0),(1000000,D.pinned 0 (b 0)),(1000001,D.pinned 1 (b 1))]) (fun(s:Rat×σ)=>[(0,Hp.box 28 (qC s.1)),(1,Hp.caller T tm (C (.next s.2)))]) h (.of rfl) (.of rfl) rfl rfl ?_);rintro⟨x,s⟩ st0 hb;have h:j9 step (x,s)=some st0:=hb;clear hb;unfold j9 at h;show Ok PP _ [(0,D.lit (.func (.yield l) #[] #[])),(1,D.ref 0 0),(1000000,D.pinned 0 (b 0)),(1000001,D.pinned 1 (b 1))] [(0,Hp.box 28 (qC x)),(1,Hp.caller T tm (C (.next s)))] _ _;refine .block ?_;obtain⟨v,e1,h⟩:=bind_some h;refine .ak (.bg (qC x) rfl rfl aa rfl rfl<|.af (nh e1) ⟨rfl,trivial⟩ trivial trivial<|.eZ (qC (0)) ay ⟨eB,ep,ee,trivial⟩ rfl<|.cc (qC v) rfl rfl rfl aa rfl rfl rfl<|.nil) rfl ?_;obtain⟨st,hst,h⟩:=bind_some h;refine .sq ?_;refine .seq (K:=fun a w=>Sat ⟨A,w0.heap.size,w0,Go.Proofs.Tryz.f223.ntmps,L⟩ (aO [(9,D.bool (!mD st)),(0,D.lit (.func (.yield l) #[] #[])),(1,D.ref 0 0),(3,D.ref 3 0),(1000000,D.pinned 0 (b 0)),(1000001,D.pinned 1 (b 1))]) (ai [(0,Hp.box 28 (qC x)),(1,Hp.caller T tm (C st)),(3,Hp.box 28 (qC v))]) a w) ?_ ?_
 ·refine sQ (pre:=[_,_]) (post:=[_]) (nc:=1) hY hst rfl (.mv rfl<|.bg (qC v) rfl rfl aa rfl rfl<|.nil) rfl rfl rfl (.not rfl<|.nil) rfl rfl rfl rfl (fun t ht=>by injection ht with ht;subst ht;exact Nat.le_of_ble_eq_true rfl) ?_;exact fun a w hs=>hs.sub (.of rfl) (.of rfl) rfl rfl
 show Ok PP _ [(9,D.bool (!mD st)),(0,D.lit (.func (.yield l) #[] #[])),(1,D.ref 0 0),(3,D.ref 3 0),(1000000,D.pinned 0 (b 0)),(1000001,D.pinned 1 (b 1))] [(0,Hp.box 28 (qC x)),(1,Hp.caller T tm (C st)),(3,Hp.box 28 (qC v))] _ _
 cases st with
 |done r=>
  refine .cT rfl ?_;refine .aF (Hi:=[(0,.box 28 (qC a)),(1,.caller T tm (C (.next s0)))]) (Ho:=[(0,.box 28 (qC x)),(1,.caller T tm (C (.done r)))]) (b:=b) (fn:=Go.Proofs.Tryz.f223) (d:=.any) (fun _ _ hb=>by
   refine⟨_,(Option.some.inj h).symm,fun e=>?_⟩;injection e with e1 e2;subst e1;subst e2;exact hb) rfl .nil (xc _) (.of rfl) (.of rfl)
 |next s'=>
  simp only at h;refine .cF rfl (.skip (Ok.on ?_));obtain⟨v2,e2,h⟩:=bind_some h;refine .sq ?_;refine .ak (.bg (qC x) rfl rfl aa rfl rfl<|.bg (qC v) rfl rfl aa rfl rfl<|.af (kv e2) ⟨rfl,rfl,trivial⟩ trivial trivial<|.cc (qC v2) rfl rfl rfl aa rfl rfl rfl<|.nil) rfl ?_;obtain⟨v3,e3,h⟩:=bind_some h;refine .ak (.bg (qC v2) rfl rfl aa rfl rfl<|.af (cV e3) ⟨rfl,trivial⟩ trivial trivial<|.cm rfl rfl rfl<|.nil) rfl ?_;by_cases c1:(v3==0)=true
  ·replace h:=ab c1 h;refine .bT rfl c1 ?_;exact .aF (Hi:=[(0,.box 28 (qC a)),(1,.caller T tm (C (.next s0)))]) (Ho:=[(0,.box 28 (qC v2)),(1,.caller T tm (C (.next s')))]) (b:=b) (fn:=Go.Proofs.Tryz.f223) (d:=.any) (fun _ _ hb=>by
    refine⟨_,(Option.some.inj h).symm,fun e=>?_⟩;injection e with e1 e2;subst e1;subst e2;exact hb) rfl .nil (xc _) (.of rfl) (.of rfl)
  ·replace h:=ae c1 h;refine .cC rfl c1 (.skip (Ok.on ?_));obtain⟨v4,e4,h⟩:=bind_some h;obtain⟨v5,e5,h⟩:=bind_some h;exact .cJ bP (.af (bA e4) ⟨rfl,trivial⟩ trivial trivial<|.bg (qC v2) rfl rfl aa rfl rfl<|.af (e_ e5) ⟨rfl,rfl,trivial⟩ trivial trivial<|.cc (qC v5) rfl rfl rfl aa rfl rfl rfl<|.nil) rfl (by kernel_rfl)
    (fun _ _ hs=>⟨(v5,s'),(Option.some.inj h).symm,hs.sub (.of rfl) (.of rfl) rfl rfl⟩)
def vp(T:List (Nat×D)):List (Nat×D)->Prop
 |[]=>True
 |(t,d)::l=>aO T t=some d/\vp T l
theorem oo{T:List (Nat×D)}:∀{l:List (Nat×D)},vp T l->∀t d,aO l t=some d->aO T t=some d
 |[],_,r,h,hh=>by cases hh
 |(r0,h0)::l,ha,r,h,hh=>by
  simp only[aO]at hh
  cases hb:Nat.beq r r0 with
  |true=>rw[hb]at hh;injection hh with hh;subst hh;rw[Nat.eq_of_beq_eq_true hb];exact ha.1
  |false=>rw[hb]at hh;exact oo ha.2 r h hh
theorem tz{σ ρ:Type}{j:Nat}{Q:Exit->Act->World->Prop}{st:St σ ρ}{a:Act}{w:World}(h:Q .normal a w):Exit.inBlock j Q (vc j st) a w:=by
 cases st with
 |next s=>exact h
 |done r=>exact bD h
abbrev Ns:=Rat×Rat×Rat×Rat
def Ns.fin:St Ns Ns->Ns
 |.next s=>s
 |.done s=>s
def j3(most:Int)(s:Ns)(n:Rat):Option (St Ns Ns):=
 (cx n s.2.1).bind fun v32=>(dH v32 s.2.2.2).bind fun v34=>(aT most).bind fun v37=>(j0 v34 v37).bind fun v38=>
  if(decide (v38>0))=true then(aT most).bind fun v41=>(gR v41 s.2.2.2).bind fun v43=>(cK v43 s.2.1).bind fun v45=>(i3 v45).bind fun v46=>(cx v46 s.1).bind fun v49=>(dH v49 s.2.2.1).bind fun v51=>(cx v46 s.2.1).bind fun v54=>(dH v54 s.2.2.2).bind fun v56=>some (.done (v51,v56,s.1,s.2.1))
  else(cx n s.1).bind fun v61=>(dH v61 s.2.2.1).bind fun v63=>some (.next (v63,v34,s.1,s.2.1))
def sx(a:Rat)(most:Int):Option (Rat×Int):=
 if(decide (most<1))=true then some (0,3)else(m_ a).bind fun v17=>(aT most).bind fun v19=>(j0 v17 v19).bind fun v20=>if(decide (v20<=0))=true then some (a,0)else(aT 1).bind fun v23=>(aT 0).bind fun v24=>
  (Loop (j9 (j3 most)) (a,(v23,v24,v24,v23))).bind fun x=>(cK (Ns.fin x.2).1 (Ns.fin x.2).2.1).bind fun v70=>(cK (Ns.fin x.2).2.2.1 (Ns.fin x.2).2.2.2).bind fun v73=>(kL a v70 v73).bind fun r=>some (r,0)
def yv(a:Rat)(most:Int)(st:St Ns Ns):List (Nat×Hp):=
 [(2,Hp.box 28 (qC a)),(3,Hp.box 2 [D.int .i64 most]),(4,Hp.box 28 (qC 0)),(6,Hp.box 28 (qC (Ns.fin st).1)),(7,Hp.box 28 (qC (Ns.fin st).2.1)),(8,Hp.box 28 (qC (Ns.fin st).2.2.1)),(9,Hp.box 28 (qC (Ns.fin st).2.2.2))]
def zZ:List (Nat×D):=[(2,D.ref 2 0),(3,D.ref 3 0),(4,D.ref 4 0),(6,D.ref 6 0),(7,D.ref 7 0),(8,D.ref 8 0),(9,D.ref 9 0)]
theorem AR{a:Rat}{most:Int}{r:Rat}{e:Int}(h:sx a most=some (r,e)):bb PP 28 [] [qD a,D.int .i64 most] [] (D.fA [qD r,D.int .i64 e]):=by
 unfold sx at h;refine .ofM Go.Proofs.Tryz.func28 rfl (by kernel_rfl) rfl rfl rfl rfl rfl rfl (fun A w0 L b=>?_);show Ok PP _ [(0,qD a),(1,D.int .i64 most)] [] _ _;refine .ak (.iL rfl rfl<|.Cx rfl rfl rfl<|.eZ (qC (0)) ay ⟨eB,ep,ee,trivial⟩ rfl<|.av rfl<|.nil) rfl ?_;refine .sq ?_;refine .ak (.bH (D.int .i64 most) rfl rfl np rfl<|.cm rfl rfl rfl<|.nil) rfl ?_;by_cases c1:(decide (most<1))=true
 ·replace h:=ab c1 h;refine .bT rfl c1 ?_;refine .ak (.jb (qC (0)) [] ay bw trivial trivial ⟨eB,ep,ee,trivial⟩<|.cc (qC (0)) rfl rfl rfl aa rfl rfl rfl<|.av rfl<|.nil) rfl ?_;cases h;exact .aF sV rfl (.cons (.agg rfl rfl aa rfl) (.cons (.tmp rfl) .nil)) (.refl _) trivial trivial
 replace h:=ae c1 h;refine .cC rfl c1 (.skip (Ok.on ?_));obtain⟨v17,e17,h⟩:=bind_some h;obtain⟨v19,e19,h⟩:=bind_some h;obtain⟨v20,e20,h⟩:=bind_some h;refine .sq ?_;refine .cn bP (.bg (qC (a)) rfl rfl aa rfl rfl<|.af (tN e17) ⟨rfl,trivial⟩ trivial trivial<|.bH (D.int .i64 most) rfl rfl np rfl<|.af (bA e19) ⟨rfl,trivial⟩ trivial trivial<|.af (pH e20) ⟨rfl,rfl,trivial⟩ trivial trivial<|.cm rfl rfl rfl<|.nil) rfl (by kernel_rfl) ?_;by_cases c2:(decide (v20<=0))=true
 ·replace h:=ab c2 h;refine .bT rfl c2 ?_;refine .ak (.bg (qC (a)) rfl rfl aa rfl rfl<|.cc (qC (a)) rfl rfl rfl aa rfl rfl rfl<|.av rfl<|.nil) rfl ?_;cases h;exact .aF sV rfl (.cons (.agg rfl rfl aa rfl) (.cons (.tmp rfl) .nil)) (.refl _) trivial trivial
 replace h:=ae c2 h;refine .cC rfl c2 (.skip (Ok.on ?_));obtain⟨v23,e23,h⟩:=bind_some h;obtain⟨v24,e24,h⟩:=bind_some h;refine .ak (.af (bA e23) ⟨rfl,trivial⟩ trivial trivial<|.af (bA e24) ⟨rfl,trivial⟩ trivial trivial<|.af (bA e24) ⟨rfl,trivial⟩ trivial trivial<|.af (bA e23) ⟨rfl,trivial⟩ trivial trivial<|.eZ (qC (0)) ay ⟨eB,ep,ee,trivial⟩ rfl<|.eZ (qC (0)) ay ⟨eB,ep,ee,trivial⟩ rfl<|.eZ (qC (0)) ay ⟨eB,ep,ee,trivial⟩ rfl<|.eZ (qC (0)) ay ⟨eB,ep,ee,trivial⟩ rfl<|.cc (qC (v23)) rfl rfl rfl aa rfl rfl rfl<|.cc (qC (v24)) rfl rfl rfl aa rfl rfl rfl<|.cc (qC (v24)) rfl rfl rfl aa rfl rfl rfl<|.cc (qC (v23)) rfl rfl rfl aa rfl rfl rfl<|.nil) rfl ?_;refine .sq ?_;refine .ak (.bg (qC (a)) rfl rfl aa rfl rfl<|.af (tw a) ⟨rfl,trivial⟩ trivial ⟨rfl,trivial⟩<|.nil) rfl ?_;obtain⟨⟨aE,cc⟩,hl,h⟩:=bind_some h;refine .block ?_;refine Ok.AD (σ:=Ns) (ρ:=Ns) (α:=Rat) (rb:=1) (tb:=28) (j:=0) (rd:=900) (dd:=901) (lb:=qC a) (lb':=qC aE) (C:=yv a most) (dx:=qD) (step:=j3 most) (s0:=(v23,v24,v24,v23)) (cc:=cc) zZ [2,3,4,6,7,8,9]
  rfl (by kernel_rfl) rfl rfl ?_ ?_ rfl rfl rfl rfl (fun _=>rfl) (fun _ _ _ _=>rfl) (fun _ _=>rfl) (fun _=>rfl) (Nat.le_of_ble_eq_true rfl) (fun l b fn tm hY=>A7 hY hl)
  (fun x=>[(10,Hp.box 28 (qC x))]) (fun β _ _ _=>[(10,D.ref 10 0),(2,D.ref 2 0),(3,D.ref 3 0),(4,D.ref 4 0),(6,D.ref 6 0),(7,D.ref 7 0),(8,D.ref 8 0),(9,D.ref 9 0)]++pins β [900,901,2,3,4,6,7,8,9]) ?_ ?_ ?_ ?_
 ·exact oo ⟨rfl,rfl,rfl,rfl,rfl,rfl,rfl,trivial⟩
 ·exact pW ⟨rfl,rfl,rfl,rfl,rfl,rfl,rfl,trivial⟩
 ·exact fun β l b x=>(.of rfl)
 ·-- the left side
  intro l b o s x st hst A w0 L β;refine jO.region (fun⟨_,_,hf⟩=>hf.elim) rfl (.eZ (qC (0)) ay ⟨eB,ep,ee,trivial⟩ rfl<|.cc (qC (x)) rfl rfl rfl aa rfl rfl rfl<|.nil) rfl (fun a' w' hs=>hs.sub (T':=[(10,D.ref 10 0),(2,D.ref 2 0),(3,D.ref 3 0),(4,D.ref 4 0),(6,D.ref 6 0),(7,D.ref 7 0),(8,D.ref 8 0),(9,D.ref 9 0),(1000900,D.pinned 900 (β 900)),(1000901,D.pinned 901 (β 901)),(1000002,D.pinned 2 (β 2)),(1000003,D.pinned 3 (β 3)),(1000004,D.pinned 4 (β 4)),(1000006,D.pinned 6 (β 6)),(1000007,D.pinned 7 (β 7)),(1000008,D.pinned 8 (β 8)),(1000009,D.pinned 9 (β 9))]) (H':=bR 900 901 o (yv a most) (.next s)++[(10,Hp.box 28 (qC x))]) (.of rfl) (.of rfl) rfl rfl)
 ·-- the body
  intro l b o s n st hst A w0 L β;obtain⟨p,q,lp,lq⟩:=s;unfold j3 at hst;simp only at hst;show jO PP _ [(10,D.ref 10 0),(2,D.ref 2 0),(3,D.ref 3 0),(4,D.ref 4 0),(6,D.ref 6 0),(7,D.ref 7 0),(8,D.ref 8 0),(9,D.ref 9 0),(1000900,D.pinned 900 (β 900)),(1000901,D.pinned 901 (β 901)),(1000002,D.pinned 2 (β 2)),(1000003,D.pinned 3 (β 3)),(1000004,D.pinned 4 (β 4)),(1000006,D.pinned 6 (β 6)),(1000007,D.pinned 7 (β 7)),(1000008,D.pinned 8 (β 8)),(1000009,D.pinned 9 (β 9))] [(900,Hp.obj o),(901,Hp.obj (.deferred (some []))),(2,Hp.box 28 (qC a)),(3,Hp.box 2 [D.int .i64 most]),(4,Hp.box 28 (qC 0)),(6,Hp.box 28 (qC p)),(7,Hp.box 28 (qC q)),(8,Hp.box 28 (qC lp)),(9,Hp.box 28 (qC lq)),(10,Hp.box 28 (qC n))] _ _;refine .block ?_;obtain⟨v32,e32,hst⟩:=bind_some hst;obtain⟨v34,e34,hst⟩:=bind_some hst;obtain⟨v37,e37,hst⟩:=bind_some hst;obtain⟨v38,e38,hst⟩:=bind_some hst;refine .cn (by rintro⟨_,_,hf⟩;exact hf) rfl bP (.bg (qC (n)) rfl rfl aa rfl rfl<|.bg (qC (q)) rfl rfl aa rfl rfl<|.af (di e32) ⟨rfl,rfl,trivial⟩ trivial trivial<|.bg (qC (lq)) rfl rfl aa rfl rfl<|.af (fL e34) ⟨rfl,rfl,trivial⟩ trivial trivial<|.eZ (qC (0)) ay ⟨eB,ep,ee,trivial⟩ rfl<|.cc (qC (v34)) rfl rfl rfl aa rfl rfl rfl<|.nil) rfl (by kernel_rfl) ?_;refine .sq ?_;refine .cn (by rintro⟨_,_,hf⟩;exact hf) rfl bP (.bg (qC (v34)) rfl rfl aa rfl rfl<|.bH (D.int .i64 most) rfl rfl np rfl<|.af (bA e37) ⟨rfl,trivial⟩ trivial trivial<|.af (pH e38) ⟨rfl,rfl,trivial⟩ trivial trivial<|.cm rfl rfl rfl<|.nil) rfl (by kernel_rfl) ?_;by_cases c3:(decide (v38>0))=true
  ·replace hst:=ab c3 hst;refine .bT rfl c3 ?_;obtain⟨v41,e41,hst⟩:=bind_some hst;obtain⟨v43,e43,hst⟩:=bind_some hst;obtain⟨v45,e45,hst⟩:=bind_some hst;obtain⟨v46,e46,hst⟩:=bind_some hst;obtain⟨v49,e49,hst⟩:=bind_some hst;obtain⟨v51,e51,hst⟩:=bind_some hst;obtain⟨v54,e54,hst⟩:=bind_some hst;obtain⟨v56,e56,hst⟩:=bind_some hst;refine .cn (by rintro⟨_,_,hf⟩;exact hf) rfl bP (.bH (D.int .i64 most) rfl rfl np rfl<|.af (bA e41) ⟨rfl,trivial⟩ trivial trivial<|.bg (qC (lq)) rfl rfl aa rfl rfl<|.af (kv e43) ⟨rfl,rfl,trivial⟩ trivial trivial<|.bg (qC (q)) rfl rfl aa rfl rfl<|.af (e_ e45) ⟨rfl,rfl,trivial⟩ trivial trivial<|.af (nh e46) ⟨rfl,trivial⟩ trivial trivial<|.eZ (qC (0)) ay ⟨eB,ep,ee,trivial⟩ rfl<|.cc (qC (v46)) rfl rfl rfl aa rfl rfl rfl<|.nil) rfl (by kernel_rfl) ?_;refine .cn (by rintro⟨_,_,hf⟩;exact hf) rfl bP (.bg (qC (v46)) rfl rfl aa rfl rfl<|.bg (qC (p)) rfl rfl aa rfl rfl<|.af (di e49) ⟨rfl,rfl,trivial⟩ trivial trivial<|.bg (qC (lp)) rfl rfl aa rfl rfl<|.af (fL e51) ⟨rfl,rfl,trivial⟩ trivial trivial<|.bg (qC (v46)) rfl rfl aa rfl rfl<|.bg (qC (q)) rfl rfl aa rfl rfl<|.af (di e54) ⟨rfl,rfl,trivial⟩ trivial trivial<|.bg (qC (lq)) rfl rfl aa rfl rfl<|.af (fL e56) ⟨rfl,rfl,trivial⟩ trivial trivial<|.bg (qC (p)) rfl rfl aa rfl rfl<|.bg (qC (q)) rfl rfl aa rfl rfl<|.cc (qC (v51)) rfl rfl rfl aa rfl rfl rfl<|.cc (qC (v56)) rfl rfl rfl aa rfl rfl rfl<|.cc (qC (p)) rfl rfl rfl aa rfl rfl rfl<|.cc (qC (q)) rfl rfl rfl aa rfl rfl rfl<|.nil) rfl (by kernel_rfl) ?_;have e0:=Option.some.inj hst;subst e0;exact .exit (fun a' w' hs=>⟨rfl,⟨_,rfl⟩,[(1000900,D.pinned 900 (β 900)),(1000901,D.pinned 901 (β 901)),(1000002,D.pinned 2 (β 2)),(1000003,D.pinned 3 (β 3)),(1000004,D.pinned 4 (β 4)),(1000006,D.pinned 6 (β 6)),(1000007,D.pinned 7 (β 7)),(1000008,D.pinned 8 (β 8)),(1000009,D.pinned 9 (β 9))],(.of rfl),hs.sub (.of rfl) (.of rfl) rfl rfl⟩)
  ·replace hst:=ae c3 hst;refine .cC rfl c3 (.skip (jO.on ?_));obtain⟨v61,e61,hst⟩:=bind_some hst;obtain⟨v63,e63,hst⟩:=bind_some hst;have e0:=Option.some.inj hst;subst e0;exact .cJ (by rintro⟨_,_,hf⟩;exact hf) rfl bP (.bg (qC (n)) rfl rfl aa rfl rfl<|.bg (qC (p)) rfl rfl aa rfl rfl<|.af (di e61) ⟨rfl,rfl,trivial⟩ trivial trivial<|.bg (qC (lp)) rfl rfl aa rfl rfl<|.af (fL e63) ⟨rfl,rfl,trivial⟩ trivial trivial<|.bg (qC (v34)) rfl rfl aa rfl rfl<|.bg (qC (p)) rfl rfl aa rfl rfl<|.bg (qC (q)) rfl rfl aa rfl rfl<|.cc (qC (v63)) rfl rfl rfl aa rfl rfl rfl<|.cc (qC (v34)) rfl rfl rfl aa rfl rfl rfl<|.cc (qC (p)) rfl rfl rfl aa rfl rfl rfl<|.cc (qC (q)) rfl rfl rfl aa rfl rfl rfl<|.nil) rfl (by kernel_rfl)
    (fun a' w' hs=>⟨⟨_,rfl⟩,[(1000900,D.pinned 900 (β 900)),(1000901,D.pinned 901 (β 901)),(1000002,D.pinned 2 (β 2)),(1000003,D.pinned 3 (β 3)),(1000004,D.pinned 4 (β 4)),(1000006,D.pinned 6 (β 6)),(1000007,D.pinned 7 (β 7)),(1000008,D.pinned 8 (β 8)),(1000009,D.pinned 9 (β 9))],(.of rfl),hs.sub (.of rfl) (.of rfl) rfl rfl⟩)
 ·-- behind the loop
  intro l b o a' w' hd hs;obtain⟨v70,e70,h⟩:=bind_some h;obtain⟨v73,e73,h⟩:=bind_some h;obtain⟨rr,er,h⟩:=bind_some h;have hs':Sat _ (aO ((2000001,D.pinned 901 (ptrTo b))::zZ)) (ai ((901,Hp.obj (.deferred (some [])))::yv a most cc)) _ _:=hs.sub (.of rfl) (.of rfl) rfl rfl;refine tz ?_;show Code.wp PP _ _ a' w';refine(show Ae PP [mark b] ⟨A,w0.heap.size,w0,_,L⟩ [(2000001,D.pinned 901 (ptrTo b)),(2,D.ref 2 0),(3,D.ref 3 0),(4,D.ref 4 0),(6,D.ref 6 0),(7,D.ref 7 0),(8,D.ref 8 0),(9,D.ref 9 0)] [(901,Hp.obj (.deferred (some []))),(2,Hp.box 28 (qC a)),(3,Hp.box 2 [D.int .i64 most]),(4,Hp.box 28 (qC 0)),(6,Hp.box 28 (qC (Ns.fin cc).1)),(7,Hp.box 28 (qC (Ns.fin cc).2.1)),(8,Hp.box 28 (qC (Ns.fin cc).2.2.1)),(9,Hp.box 28 (qC (Ns.fin cc).2.2.2))] _ _ from ?_) a' w' hd hs';refine Ae.cn bP (.bg (qC (a)) rfl rfl aa rfl rfl<|.bg (qC ((Ns.fin cc).1)) rfl rfl aa rfl rfl<|.bg (qC ((Ns.fin cc).2.1)) rfl rfl aa rfl rfl<|.af (e_ e70) ⟨rfl,rfl,trivial⟩ trivial trivial<|.bg (qC ((Ns.fin cc).2.2.1)) rfl rfl aa rfl rfl<|.bg (qC ((Ns.fin cc).2.2.2)) rfl rfl aa rfl rfl<|.af (e_ e73) ⟨rfl,rfl,trivial⟩ trivial trivial<|.af (xj er) ⟨rfl,rfl,rfl,trivial⟩ trivial trivial<|.cc (qC (rr)) rfl rfl rfl aa rfl rfl rfl<|.av rfl<|.nil) rfl (by kernel_rfl) ?_;intro a2 w2 hd2 hs2;cases h;refine wp_ret ?_;have hs3:=hs2.sub (T':=[(2000001,D.pinned 901 (ptrTo b)),(4,D.ref 4 0),(5,D.int .i64 0)]) (H':=[(901,Hp.obj (.deferred (some []))),(4,Hp.box 28 (qC r))]) (.of rfl) (.of rfl) rfl rfl;exact Sat.Cd hd2 hs3 (fun ε φ hs=>hs.t 2000001 _ rfl) rfl (.cons (.agg rfl rfl aa rfl) (.cons (.tmp rfl) .nil)) (.refl _) trivial trivial
end
end Go.Am
namespace Go.Am
theorem A5(x:Rat):1<=sz x:=by
 have h:=x.den_nz;have h1:bn 1<=bn x.den:=ct (by omega);rw[kR]at h1;exact Nat.le_trans h1 (Nat.le_max_right _ _)
theorem so(a b:Rat):sz (a/b)<=sz a+sz b:=by
 by_cases h:b=0
 ·subst h;have e:a/0=0:=by rw[Rat.div_def,Rat.inv_zero,Rat.mul_zero]
  have:=A5 a;rw[e];have e2:sz (0:Rat)=1:=rfl;omega
 ·exact AX a b h
theorem Ch(a:Rat):a<=(((a.num.natAbs:Nat):Int):Rat)/\-a<=(((a.num.natAbs:Nat):Int):Rat):=by
 have hd:(0:Rat)<(((a.den:Nat):Int):Rat):=by
  have:=a.den_nz
  exact_mod_cast (by omega:(0:Int)<((a.den:Nat):Int))
 have key:∀z:Int,z<=((a.num.natAbs:Nat):Int)->(z:Rat)/(((a.den:Nat):Int):Rat)<=(((a.num.natAbs:Nat):Int):Rat):=by
  intro z hz;apply Rat.not_lt.1;intro h;rw[Rat.lt_div_iff hd]at h;have h2:(((a.num.natAbs:Nat):Int)*((a.den:Nat):Int))<z:=by exact_mod_cast h
  have h3:((a.num.natAbs:Nat):Int)*1<=((a.num.natAbs:Nat):Int)*((a.den:Nat):Int):=Int.mul_le_mul_of_nonneg_left (by have:=a.den_nz;omega) (by omega);omega
 have e:=oX a;refine⟨?_,?_⟩
 ·have:=key a.num (by omega);rw[e]at this;exact this
 ·have:=key (-a.num) (by omega);have e2:((-a.num:Int):Rat)/(((a.den:Nat):Int):Rat)=-a:=by
   rw[show((-a.num:Int):Rat)=-(a.num:Rat)by simp];have:-(a.num:Rat)/(((a.den:Nat):Int):Rat)=-((a.num:Rat)/(((a.den:Nat):Int):Rat)):=by grind
   rw[this,e]
  rw[e2]at this;exact this
theorem wB{a:Rat}{p q most:Int}(hq:0<=q)(hm:q<=most)(h1:a*(q:Rat)-(p:Rat)<=1)(h2:-1<=a*(q:Rat)-(p:Rat)):p.natAbs<=a.num.natAbs*most.toNat+1:=by
 obtain⟨a1,a2⟩:=Ch a;have hqr:(0:Rat)<=(q:Rat):=by exact_mod_cast hq
 generalize a.num.natAbs=N at*;have b1:a*(q:Rat)<=((N:Int):Rat)*(q:Rat):=Rat.mul_le_mul_of_nonneg_right a1 hqr;have b2:-a*(q:Rat)<=((N:Int):Rat)*(q:Rat):=Rat.mul_le_mul_of_nonneg_right a2 hqr;have c1:(p:Rat)<=((N:Int):Rat)*(q:Rat)+1:=by grind
 have c2:-(p:Rat)<=((N:Int):Rat)*(q:Rat)+1:=by grind
 have d1:p<=(N:Int)*q+1:=by exact_mod_cast c1
 have d2:-p<=(N:Int)*q+1:=by exact_mod_cast c2
 have d3:(N:Int)*q<=(N:Int)*most:=Int.mul_le_mul_of_nonneg_left hm (by omega);obtain⟨m,rfl⟩:=Int.eq_ofNat_of_zero_le (show 0<=most by omega);rw[Int.toNat_natCast];have d4:((N*m:Nat):Int)=(N:Int)*(m:Int):=Int.natCast_mul N m;omega
theorem Cr{a:Rat}{most:Int}{t:Rat}{p q lp lq:Int}(h:CF a most t p q lp lq)(hq1:1<=q):p.natAbs<=a.num.natAbs*most.toNat+1:=by
 have ht:1<=t:=by
  rcases h.one with⟨e1,_⟩|⟨_,e2⟩
  ·omega
  ·exact e2
 have hqr:(1:Rat)<=(q:Rat):=by exact_mod_cast hq1
 have hlqr:(0:Rat)<=(lq:Rat):=by exact_mod_cast h.wW
 have hW:1<=t*(q:Rat)+(lq:Rat):=by
  have:=Rat.mul_le_mul_of_nonneg_right ht (show(0:Rat)<=(q:Rat)by grind)
  grind
 have hrel:=h.rel;have f1:(a*q-p)*(t*q+lq)=-((p*lq-lp*q:Int):Rat):=by
  have:((p*lq-lp*q:Int):Rat)=(p:Rat)*lq-lp*q:=by simp
  rw[this];grind
 have hdet:((p*lq-lp*q:Int):Rat)=1\/((p*lq-lp*q:Int):Rat)=-1:=by
  rcases h.BW with e|e<;>rw[e]<;>simp
 have hu:∀u:Rat,u*(t*q+lq)<=1->u<=1:=fun u hu=>Rat.not_lt.1 (fun hc=>by
  have:=Rat.mul_le_mul_of_nonneg_left hW (show(0:Rat)<=u by grind)
  grind)
 refine wB h.hq h.mq (hu _ ?_) ?_
 ·rcases hdet with e|e<;>rw[e]at f1<;>grind
 ·have:=hu (-(a*q-p)) (by rcases hdet with e|e<;>rw[e]at f1<;>grind)
  grind
theorem zK(t:Rat):t-(t.floor:Rat)=mkRat (t.num%(t.den:Int)) t.den:=by
 have hd:(((t.den:Nat):Int):Rat)≠0:=by
  have:=t.den_nz
  exact_mod_cast (by omega:((t.den:Nat):Int)≠0)
 rw[Rat.mkRat_eq_div];have e1:=oX t;have e2:t.floor=t.num/(t.den:Int):=Rat.floor_def t;have e3:((t.num:Int):Rat)=(((t.den:Nat):Int):Rat)*((t.num/(t.den:Int):Int):Rat)+((t.num%(t.den:Int):Int):Rat):=by
  have:=(Int.mul_ediv_add_emod t.num (t.den:Int)).symm
  exact_mod_cast this
 have e4:((t.den:Nat):Rat)=(((t.den:Nat):Int):Rat):=rfl;rw[e2,e4];generalize ((t.num:Int):Rat)=N at*;generalize (((t.den:Nat):Int):Rat)=D at*;generalize ((t.num/(t.den:Int):Int):Rat)=F at*;generalize ((t.num%(t.den:Int):Int):Rat)=R at*;rw[←e1,e3]
 grind
theorem x4(t:Rat)(h:t-(t.floor:Rat)≠0):(1/(t-(t.floor:Rat))).den<t.den/\sz (1/(t-(t.floor:Rat)))<=sz t:=by
 rw[zK]at h|-;have hd:=t.den_nz;have hr0:t.num%(t.den:Int)≠0:=fun e=>h (by rw[e];simp);have hr1:=Int.emod_nonneg t.num (show(t.den:Int)≠0 by omega);have hr2:=Int.emod_lt_of_pos t.num (show 0<(t.den:Int)by omega);obtain⟨r,hr⟩:=Int.eq_ofNat_of_zero_le hr1;rw[hr]at h hr0 hr2|-;have e:1/mkRat (r:Int) t.den=mkRat (t.den:Int) r:=by
  rw[Rat.mkRat_eq_div,Rat.mkRat_eq_div];have h1:((r:Nat):Rat)≠0:=by
   have:((r:Nat):Int)≠0:=hr0
   exact_mod_cast this
  have h2:((t.den:Nat):Rat)≠0:=by exact_mod_cast hd
  have e3:(((r:Nat):Int):Rat)=((r:Nat):Rat):=rfl;have e4:(((t.den:Nat):Int):Rat)=((t.den:Nat):Rat):=rfl;rw[e3,e4];grind
 rw[e];have hs:=(fo.1 (Nat.le_refl (sz t))).2;refine⟨Nat.lt_of_le_of_lt (gV _ _ (by omega)) (by omega),BK _ _ _ (by omega) (by rw[Int.natAbs_natCast];exact hs) (Nat.le_trans (ct (by omega)) hs)⟩
theorem xg(x y:Rat):fV ((x.den:Nat):Rat) ((y.den:Nat):Rat)=fK x.den y.den:=by
 unfold fV fK;have h1:(((x.den:Nat):Rat)<((y.den:Nat):Rat))↔x.den<y.den:=by exact_mod_cast Iff.rfl
 have h2:(((y.den:Nat):Rat)<((x.den:Nat):Rat))↔y.den<x.den:=by exact_mod_cast Iff.rfl
 simp only[h1,h2]
theorem wJ(a x y:Rat)(ha:sz a<=100000000000)(hx:sz x<=110000000000)(hy:sz y<=110000000000):∃r,kL a x y=some r/\(r=x\/r=y)/\¬better a x r/\¬better a y r:=by
 have qa:fe a:=Nat.le_trans ha (by omega);have qx:fe x:=Nat.le_trans hx (by omega);have qy:fe y:=Nat.le_trans hy (by omega);have q1:fe (gx (x-a)):=by have:=qg x a;unfold fe;rw[vE];omega
 have q2:fe (gx (y-a)):=by have:=qg y a;unfold fe;rw[vE];omega
 have q3:fe ((x.den:Nat):Rat):=by have:=uC x;unfold fe;omega
 have q4:fe ((y.den:Nat):Rat):=by have:=uC y;unfold fe;omega
 have eA:∀v:Rat,tG v=some (gx v):=fun v=>rfl;have e1:gR x a=some (x-a):=bK ⟨qx,qa⟩;have e2:gR y a=some (y-a):=bK ⟨qy,qa⟩;have e3:j0 (gx (x-a)) (gx (y-a))=some (fV (gx (x-a)) (gx (y-a))):=bK ⟨q1,q2⟩;have e4:m_ x=some (x.den:Rat):=bK qx;have e5:m_ y=some (y.den:Rat):=bK qy;have e6:j0 ((x.den:Nat):Rat) ((y.den:Nat):Rat)=some (fK x.den y.den):=by rw[←xg];exact bK ⟨q3,q4⟩
 have e7:j0 x y=some (fV x y):=bK ⟨qx,qy⟩;unfold kL;simp only[e1,e2,eA,e3,e4,e5,e6,e7,Option.bind_some];have t1:∀u v:Rat,(fV u v=-1/\u<v)\/(fV u v=1/\v<u)\/(fV u v=0/\u=v):=by intro u v;unfold fV;grind
 have t2:∀u v:Nat,(fK u v=-1/\u<v)\/(fK u v=1/\v<u)\/(fK u v=0/\u=v):=by intro u v;unfold fK;grind
 have c1:=t1 (gx (x-a)) (gx (y-a));have c2:=t2 x.den y.den;have c3:=t1 x y;clear t1 t2 e1 e2 eA e3 e4 e5 e6 e7 q1 q2 q3 q4 qa qx qy ha hx hy;rcases c1 with⟨h1,k1⟩|⟨h1,k1⟩|⟨h1,k1⟩
 ·rw[h1];exact⟨x,rfl,.inl rfl,by unfold better;grind,by unfold better;grind⟩
 ·rw[h1];exact⟨y,rfl,.inr rfl,by unfold better;grind,by unfold better;grind⟩
 ·rw[h1];rcases c2 with⟨h2,k2⟩|⟨h2,k2⟩|⟨h2,k2⟩
  ·rw[h2];exact⟨x,rfl,.inl rfl,by unfold better;grind,by unfold better;grind⟩
  ·rw[h2];exact⟨y,rfl,.inr rfl,by unfold better;grind,by unfold better;grind⟩
  ·rw[h2];rcases c3 with⟨h3,k3⟩|⟨h3,k3⟩|⟨h3,k3⟩
   ·rw[h3];exact⟨x,rfl,.inl rfl,by unfold better;grind,by unfold better;grind⟩
   ·rw[h3];exact⟨y,rfl,.inr rfl,by unfold better;grind,by unfold better;grind⟩
   ·rw[h3];exact⟨y,rfl,.inr rfl,by unfold better;grind,by unfold better;grind⟩
def nI(a:Rat)(most:Int)(x:Rat×Ns):Prop:=∃p q lp lq:Int,x.2=((p:Rat),(q:Rat),(lp:Rat),(lq:Rat))/\CF a most x.1 p q lp lq/\sz x.1<=sz a/\sz ((p:Int):Rat)<=sz a+80/\sz ((lp:Int):Rat)<=sz a+80
def nQ(a:Rat)(most:Int)(r:Rat×St Ns Ns):Prop:=(Ns.fin r.2).2.1≠0/\(Ns.fin r.2).2.2.2≠0/\sz (Ns.fin r.2).1<=3*sz a+10000/\sz (Ns.fin r.2).2.1<=10000/\sz (Ns.fin r.2).2.2.1<=3*sz a+10000/\sz (Ns.fin r.2).2.2.2<=10000/\
 ∀z,(z=(Ns.fin r.2).1/(Ns.fin r.2).2.1\/z=(Ns.fin r.2).2.2.1/(Ns.fin r.2).2.2.2)->¬better a ((Ns.fin r.2).1/(Ns.fin r.2).2.1) z->¬better a ((Ns.fin r.2).2.2.1/(Ns.fin r.2).2.2.2) z->uk a most.toNat z
theorem ni{q most:Int}(h0:0<=q)(h:q<=most)(hm:jv most):sz ((q:Int):Rat)<=65:=by
 unfold jv at hm;exact Nat.le_trans (nY q) (Nat.succ_le_succ (eI (n:=64) (by omega)))
theorem Co{a:Rat}{most:Int}(hm:jv most){p:Int}(h:p.natAbs<=a.num.natAbs*most.toNat+1):sz ((p:Int):Rat)<=sz a+80:=by
 unfold jv at hm;have h1:bn most.toNat<=64:=eI (by omega);have h2:=cA (fo.1 (Nat.le_refl (sz a))).1 h1;have h3:bn 1<=sz a+64:=by rw[kR];omega
 have h4:=Nat.le_trans (ct h) (pg h2 h3);have:=nY p;omega
theorem wE(a:Rat)(most:Int)(ha:sz a<=10000000000)(hm:jv most)(h1:1<=most)(hden:most<(a.den:Int)):
  ∃r,Loop (j9 (j3 most)) (a,((1:Rat),(0:Rat),(0:Rat),(1:Rat)))=some r/\nQ a most r:=by
 refine iF (body:=j9 (j3 most)) (a,((1:Rat),(0:Rat),(0:Rat),(1:Rat))) (nI a most) (fun x=>x.1.den) (nQ a most) ⟨1,0,0,1,by simp,xo a most h1,Nat.le_refl _,?_,?_⟩ ?_
 ·have:=nY 1;have e:bn (1:Int).natAbs=1:=rfl;omega
 ·have:=nY 0;have e:bn (0:Int).natAbs=0:=rfl;omega
 rintro⟨t,s⟩ ⟨p,q,lp,lq,rfl,hc,ht,hp,hlp⟩;simp only at hc ht;have hq:=ni hc.hq hc.mq hm;have wW:=ni hc.wW hc.B4 hm;have hmm:=ni (show 0<=most by omega) (Int.le_refl most) hm;have hf:=pd t;have qt:fe t:=Nat.le_trans ht (by omega);have e1:i3 t=some (t.floor:Rat):=bK qt;have s2:=sk (t.floor:Rat) (q:Rat);have e2:cx (t.floor:Rat) (q:Rat)=some ((t.floor:Rat)*(q:Rat)):=bK ⟨by unfold fe;omega,by unfold fe;omega⟩;have s3:=mo ((t.floor:Rat)*(q:Rat)) (lq:Rat);have e3:dH ((t.floor:Rat)*(q:Rat)) (lq:Rat)=some ((t.floor:Rat)*(q:Rat)+(lq:Rat)):=bK ⟨by unfold fe;omega,by unfold fe;omega⟩;have e4:aT most=some (most:Rat):=bK hm;have e5:j0 ((t.floor:Rat)*(q:Rat)+(lq:Rat)) (most:Rat)=some (fV ((t.floor:Rat)*(q:Rat)+(lq:Rat)) (most:Rat)):=bK ⟨by unfold fe;omega,by unfold fe;omega⟩;have ei:(t.floor:Rat)*(q:Rat)+(lq:Rat)=((t.floor*q+lq:Int):Rat):=by simp
 unfold j9 j3;simp only[e1,e2,e3,e4,e5,Option.bind_some];by_cases hbig:most<t.floor*q+lq
 ·right
  have hcq:fV ((t.floor:Rat)*(q:Rat)+(lq:Rat)) (most:Rat)=1:=by
   have:(most:Rat)<(t.floor:Rat)*(q:Rat)+(lq:Rat):=by rw[ei];exact_mod_cast hbig
   unfold fV;grind
  obtain⟨k,hk⟩:∃k:Int,k=(((most:Rat)-(lq:Rat))/(q:Rat)).floor:=⟨_,rfl⟩;obtain⟨b1,b2,b3,b4⟩:=xe h1 hc hbig hk;have hq0:(q:Rat)≠0:=by
   have:(0:Rat)<(q:Rat):=by exact_mod_cast (by omega:(0:Int)<q)
   grind
  have u1:=qg (most:Rat) (lq:Rat);have u2:=so ((most:Rat)-(lq:Rat)) (q:Rat);have u3:=pd (((most:Rat)-(lq:Rat))/(q:Rat));have f1:gR (most:Rat) (lq:Rat)=some ((most:Rat)-(lq:Rat)):=bK ⟨by unfold fe;omega,by unfold fe;omega⟩;have f2:cK ((most:Rat)-(lq:Rat)) (q:Rat)=some (((most:Rat)-(lq:Rat))/(q:Rat)):=bK ⟨hq0,by unfold fe;omega,by unfold fe;omega⟩;have f3:i3 (((most:Rat)-(lq:Rat))/(q:Rat))=some (k:Rat):=by rw[hk];exact bK (by unfold fe;omega)
  rw[←hk]at u3;have u4:=sk (k:Rat) (p:Rat);have u5:=mo ((k:Rat)*(p:Rat)) (lp:Rat);have u6:=sk (k:Rat) (q:Rat);have u7:=mo ((k:Rat)*(q:Rat)) (lq:Rat);have f4:cx (k:Rat) (p:Rat)=some ((k:Rat)*(p:Rat)):=bK ⟨by unfold fe;omega,by unfold fe;omega⟩;have f5:dH ((k:Rat)*(p:Rat)) (lp:Rat)=some ((k:Rat)*(p:Rat)+(lp:Rat)):=bK ⟨by unfold fe;omega,by unfold fe;omega⟩;have f6:cx (k:Rat) (q:Rat)=some ((k:Rat)*(q:Rat)):=bK ⟨by unfold fe;omega,by unfold fe;omega⟩;have f7:dH ((k:Rat)*(q:Rat)) (lq:Rat)=some ((k:Rat)*(q:Rat)+(lq:Rat)):=bK ⟨by unfold fe;omega,by unfold fe;omega⟩;refine⟨(t,.done ((k:Rat)*(p:Rat)+(lp:Rat),(k:Rat)*(q:Rat)+(lq:Rat),(p:Rat),(q:Rat))),?_,?_⟩
  ·simp only[hcq,f1,f2,f3,f4,f5,f6,f7,Option.bind_some];rfl
  ·have ex:(k:Rat)*(p:Rat)+(lp:Rat)=((k*p+lp:Int):Rat):=by simp
   have ed:(k:Rat)*(q:Rat)+(lq:Rat)=((k*q+lq:Int):Rat):=by simp
   have hd0:((k*q+lq:Int):Rat)≠0:=by
    have:(0:Rat)<((k*q+lq:Int):Rat):=by exact_mod_cast (by omega:(0:Int)<k*q+lq)
    grind
   refine⟨?_,hq0,?_,?_,?_,?_,?_⟩<;>simp only[Ns.fin]
   ·rw[ed];exact hd0
   ·omega
   ·omega
   ·omega
   ·omega
   ·rw[ex,ed];exact b4
 ·left
  have hcq:(decide (fV ((t.floor:Rat)*(q:Rat)+(lq:Rat)) (most:Rat)>0))=false:=by
   have:(t.floor:Rat)*(q:Rat)+(lq:Rat)<=(most:Rat):=by rw[ei];exact_mod_cast (by omega:t.floor*q+lq<=most)
   rw[decide_eq_false_iff_not];unfold fV;grind
  have hle:t.floor*q+lq<=most:=by omega
  have hne:t-(t.floor:Rat)≠0:=fun e=>by
   have:=Az hc hle e;omega
  obtain⟨d1,d2⟩:=x4 t hne;have hcn:=zz hc hle hne;have hq1:1<=t.floor*q+lq:=by
   rcases hcn.one with⟨e,_⟩|⟨e,_⟩
   ·exfalso
    rcases hc.one with⟨e1,e2⟩|⟨e1,e2⟩
    ·rw[e1,e2]at e;omega
    ·have h3:1<=t.floor:=Rat.le_floor_iff.2 (by simpa using e2);have h4:1*q<=t.floor*q:=Int.mul_le_mul_of_nonneg_right h3 hc.hq;have:=hc.wW;omega
   ·exact e
  have hpn:=Co hm (Cr hcn hq1);have u1:=sk (t.floor:Rat) (p:Rat);have u2:=mo ((t.floor:Rat)*(p:Rat)) (lp:Rat);have u3:=qg t (t.floor:Rat);have f1:cx (t.floor:Rat) (p:Rat)=some ((t.floor:Rat)*(p:Rat)):=bK ⟨by unfold fe;omega,by unfold fe;omega⟩;have f2:dH ((t.floor:Rat)*(p:Rat)) (lp:Rat)=some ((t.floor:Rat)*(p:Rat)+(lp:Rat)):=bK ⟨by unfold fe;omega,by unfold fe;omega⟩;have f3:gR t (t.floor:Rat)=some (t-(t.floor:Rat)):=bK ⟨qt,by unfold fe;omega⟩;have f4:cq (t-(t.floor:Rat))=some 1:=by
   have:=Rat.floor_le t;show some (yI _)=_;unfold yI;grind
  have f5:aT 1=some 1:=by decide+kernel
  have f6:cK 1 (t-(t.floor:Rat))=some (1/(t-(t.floor:Rat))):=bK ⟨hne,by decide,by unfold fe;omega⟩;refine⟨(1/(t-(t.floor:Rat)),((t.floor:Rat)*(p:Rat)+(lp:Rat),(t.floor:Rat)*(q:Rat)+(lq:Rat),(p:Rat),(q:Rat))),?_,⟨t.floor*p+lp,t.floor*q+lq,p,q,by simp,hcn,Nat.le_trans d2 ht,hpn,hp⟩,d1⟩;simp only[hcq,f1,f2,f3,f4,f5,f6,Option.bind_some,Bool.false_eq_true,if_false]
  rfl
theorem xn(a:Rat){n:Nat}(h:a.den<=n):uk a n a:=⟨h,fun y _=>by
 by_cases e:y=a
 ·subst e;exact ml _ _
 ·have:a-a=0:=by grind
  unfold better gx;rw[this]
  grind⟩
theorem zg(a:Rat)(most:Int)(ha:sz a<=10000000000)(hm:jv most):sx a most=some (if most<1 then(0,3)else(kA a most.toNat,0)):=by
 unfold sx;by_cases c1:most<1
 ·rw[if_pos (decide_eq_true c1),if_pos c1]
 rw[if_neg (by simpa using c1),if_neg c1];have qa:fe a:=Nat.le_trans ha (by omega);have hmm:=ni (show 0<=most by omega) (Int.le_refl most) hm;have sd:=uC a;have e1:m_ a=some (a.den:Rat):=bK qa;have e2:aT most=some (most:Rat):=bK hm;have e3:j0 ((a.den:Nat):Rat) (most:Rat)=some (fV ((a.den:Nat):Rat) (most:Rat)):=bK ⟨by unfold fe;omega,by unfold fe;omega⟩;have e4:aT 1=some 1:=by decide+kernel
 have e5:aT 0=some 0:=by decide+kernel
 simp only[e1,e2,e3,e4,e5,Option.bind_some];have hcast:((a.den:Nat):Rat)=(((a.den:Nat):Int):Rat):=rfl;by_cases c2:(a.den:Int)<=most
 ·have:(decide (fV ((a.den:Nat):Rat) (most:Rat)<=0))=true:=by
   have:(((a.den:Nat):Int):Rat)<=(most:Rat):=by exact_mod_cast c2
   rw[decide_eq_true_eq,hcast];unfold fV;grind
  rw[if_pos this];have:=rq (xn a (n:=most.toNat) (by omega)) (pK a most.toNat (by omega));rw[←this]
 ·have:¬(decide (fV ((a.den:Nat):Rat) (most:Rat)<=0))=true:=by
   have:(most:Rat)<(((a.den:Nat):Int):Rat):=by exact_mod_cast (by omega:most<((a.den:Nat):Int))
   rw[decide_eq_true_eq,hcast];unfold fV;grind
  rw[if_neg this];obtain⟨r,hr,g1,g2,g3,g4,g5,g6,g7⟩:=wE a most ha hm (by omega) (by omega);rw[hr];simp only[Option.bind_some];generalize Ns.fin r.2=s at*;obtain⟨p,q,lp,lq⟩:=s;simp only at g1 g2 g3 g4 g5 g6 g7|-;have f1:cK p q=some (p/q):=bK ⟨g1,by unfold fe;omega,by unfold fe;omega⟩;have f2:cK lp lq=some (lp/lq):=bK ⟨g2,by unfold fe;omega,by unfold fe;omega⟩;have s1:=so p q;have s2:=so lp lq;obtain⟨z,hz,k1,k2,k3⟩:=wJ a (p/q) (lp/lq) (by omega) (by omega) (by omega);rw[f1];simp only[Option.bind_some];rw[f2];simp only[Option.bind_some];rw[hz];have:=rq (g7 z k1 k2 k3) (pK a most.toNat (by omega));simp only[Option.bind_some];rw[this]
def yz(a:Rat)(most:Int):Option (Rat×Int):=bC (sz a<=10000000000/\jv most) (some (if most<1 then(0,3)else(kA a most.toNat,0)))
theorem A6{a1:Rat}{a2:Int}{r3:Rat}{r4:Int}(h:yz a1 a2=some (r3,r4)):bb PP 28 [] [qD a1,D.int .i64 a2] [] (D.fA [qD r3,D.int .i64 r4]):=by
 obtain⟨⟨h1,h2⟩,h⟩:=aG h;have e:=zg a1 a2 h1 h2;rw[h]at e;exact AR e
end Go.Am
namespace Go.Am
end Go.Am
namespace Go.Am
open Go.RowKit
set_option maxRecDepth 100000
noncomputable section
def jA(a1:Rat)(a2:Rat)(a3:Rat):Option Int:=(cq a1).bind fun v4=>(cq a2).bind fun v6=>(cq a3).bind fun v8=>(if(decide ((IntKind.i64.wrap (v4*(IntKind.i64.wrap (v6*v8))))>=0))=true then(if(v4 !=0)=true then some v4 else some (IntKind.i64.wrap (v6*v8)))else(cx a1 a1).bind fun v12=>(cx a2 a2).bind fun v14=>(cx v14 a3).bind fun v16=>(j0 v12 v16).bind fun v18=>some (IntKind.i64.wrap (v4*v18)))
theorem oi{a1:Rat}{a2:Rat}{a3:Rat}{r20:Int}(h:jA a1 a2 a3=some r20):bb PP 199 [] [D.agg (qC (a1)++qC (a2)++qC (a3))] [] (D.int .i64 r20):=by
 unfold jA at h;refine .of Go.Proofs.Tryz.func199 rfl (by kernel_rfl) rfl rfl rfl rfl rfl rfl (fun A w0 L b=>?_);show Ok PP _ [(0,D.agg (qC (a1)++qC (a2)++qC (a3)))] [] _ _;refine .ak (.iL rfl rfl<|.av rfl<|.nil) rfl ?_;obtain⟨v4,e5,h⟩:=bind_some h;obtain⟨v6,e7,h⟩:=bind_some h;obtain⟨v8,e9,h⟩:=bind_some h;refine .cn bP (.fa rfl aW<|.bg (qC (a1)) rfl rfl aa rfl rfl<|.af (cV e5) ⟨rfl,trivial⟩ trivial trivial<|.fa rfl aP<|.bg (qC (a2)) rfl rfl aa rfl rfl<|.af (cV e7) ⟨rfl,trivial⟩ trivial trivial<|.fa rfl aX<|.bg (qC (a3)) rfl rfl aa rfl rfl<|.af (cV e9) ⟨rfl,trivial⟩ trivial trivial<|.ar rfl rfl rfl<|.av rfl<|.av rfl<|.nil) rfl (by kernel_rfl) ?_;refine .sq ?_;refine .ak (.mv rfl<|.mv rfl<|.ar rfl rfl rfl<|.cm rfl rfl rfl<|.nil) rfl ?_;by_cases c10:(decide ((IntKind.i64.wrap (v4*(IntKind.i64.wrap (v6*v8))))>=0))=true
 ·replace h:=ab c10 h;refine .bT rfl c10 ?_;refine .sq ?_;refine .ak (.mv rfl<|.cm rfl rfl rfl<|.nil) rfl ?_;by_cases c11:(v4 !=0)=true
  ·replace h:=ab c11 h;refine .bT rfl c11 ?_;refine .ak (.mv rfl<|.av rfl<|.nil) rfl ?_;cases h;refine .aF (fun _ _ hb=>hb) rfl (.t1 (.tmp rfl)) (.refl _) trivial trivial
  ·replace h:=ae c11 h;refine .cC rfl c11 ?_;refine .skip (Ok.on ?_);refine .ak (.mv rfl<|.av rfl<|.nil) rfl ?_;cases h;refine .aF (fun _ _ hb=>hb) rfl (.t1 (.tmp rfl)) (.refl _) trivial trivial
 ·replace h:=ae c10 h;refine .cC rfl c10 ?_;refine .skip (Ok.on ?_);obtain⟨v12,e13,h⟩:=bind_some h;obtain⟨v14,e15,h⟩:=bind_some h;obtain⟨v16,e17,h⟩:=bind_some h;obtain⟨v18,e19,h⟩:=bind_some h;refine .cn bP (.mv rfl<|.fa rfl aW<|.bg (qC (a1)) rfl rfl aa rfl rfl<|.fa rfl aW<|.bg (qC (a1)) rfl rfl aa rfl rfl<|.af (di e13) ⟨rfl,rfl,trivial⟩ trivial trivial<|.fa rfl aP<|.bg (qC (a2)) rfl rfl aa rfl rfl<|.fa rfl aP<|.bg (qC (a2)) rfl rfl aa rfl rfl<|.af (di e15) ⟨rfl,rfl,trivial⟩ trivial trivial<|.fa rfl aX<|.bg (qC (a3)) rfl rfl aa rfl rfl<|.af (di e17) ⟨rfl,rfl,trivial⟩ trivial trivial<|.af (pH e19) ⟨rfl,rfl,trivial⟩ trivial trivial<|.ar rfl rfl rfl<|.av rfl<|.nil) rfl (by kernel_rfl) ?_;cases h;refine .aF (fun _ _ hb=>hb) rfl (.t1 (.tmp rfl)) (.refl _) trivial trivial
def hZ(a1:Rat)(a2:Rat)(a3:Rat)(a4:Rat)(a5:Rat)(a6:Rat):Option Int:=(gR a1 a4).bind fun v7=>(jA v7 a2 a3).bind fun v9=>(cq a5).bind fun v11=>(cq a6).bind fun v13=>(if(decide (v9<(IntKind.i64.wrap (v11*v13))))=true then some (-1)else(if(decide (v9>(IntKind.i64.wrap (v11*v13))))=true then some 1 else(if(v9==0)=true then some 0 else(cx v7 a2).bind fun v18=>(cx v7 v7).bind fun v20=>(cx a2 a2).bind fun v22=>(cx v22 a3).bind fun v24=>(dH v20 v24).bind fun v26=>(cx a5 a5).bind fun v28=>(cx v28 a6).bind fun v30=>(gR v26 v30).bind fun v32=>(dH v18 v18).bind fun v34=>(jA v32 v34 a3).bind fun v36=>some (IntKind.i64.wrap (v9*v36)))))
theorem mG{a1:Rat}{a2:Rat}{a3:Rat}{a4:Rat}{a5:Rat}{a6:Rat}{r38:Int}(h:hZ a1 a2 a3 a4 a5 a6=some r38):bb PP 200 [] [D.agg (qC (a1)++qC (a2)++qC (a3)),D.agg (qC (a4)++qC (a5)++qC (a6))] [] (D.int .i64 r38):=by
 unfold hZ at h;refine .of Go.Proofs.Tryz.func200 rfl (by kernel_rfl) rfl rfl rfl rfl rfl rfl (fun A w0 L b=>?_);show Ok PP _ [(0,D.agg (qC (a1)++qC (a2)++qC (a3))),(1,D.agg (qC (a4)++qC (a5)++qC (a6)))] [] _ _;refine .ak (.iL rfl rfl<|.iL rfl rfl<|.av rfl<|.nil) rfl ?_;obtain⟨v7,e8,h⟩:=bind_some h;refine .ak (.fa rfl aW<|.bg (qC (a1)) rfl rfl aa rfl rfl<|.fa rfl aW<|.bg (qC (a4)) rfl rfl aa rfl rfl<|.af (kv e8) ⟨rfl,rfl,trivial⟩ trivial trivial<|.fa rfl aW<|.cc (qC (v7)++qC (a2)++qC (a3)) rfl rfl rfl aa rfl rfl rfl<|.nil) rfl ?_;obtain⟨v9,e10,h⟩:=bind_some h;obtain⟨v11,e12,h⟩:=bind_some h;obtain⟨v13,e14,h⟩:=bind_some h;refine .cn bP (.bg (qC (v7)++qC (a2)++qC (a3)) rfl rfl bI rfl rfl<|.af (oi e10) ⟨rfl,trivial⟩ trivial trivial<|.fa rfl aP<|.bg (qC (a5)) rfl rfl aa rfl rfl<|.af (cV e12) ⟨rfl,trivial⟩ trivial trivial<|.fa rfl aX<|.bg (qC (a6)) rfl rfl aa rfl rfl<|.af (cV e14) ⟨rfl,trivial⟩ trivial trivial<|.ar rfl rfl rfl<|.av rfl<|.av rfl<|.nil) rfl (by kernel_rfl) ?_;refine .sq ?_;refine .block ?_;refine .ak (.mv rfl<|.mv rfl<|.cm rfl rfl rfl<|.av rfl<|.nil) rfl ?_;by_cases c15:(decide (v9<(IntKind.i64.wrap (v11*v13))))=true
 ·replace h:=ab c15 h;refine .bT rfl c15 ?_;refine .ak (.av rfl<|.nil) rfl ?_;cases h;refine .aF (fun _ _ hb=>hb) rfl (.t1 (.tmp rfl)) (.refl _) trivial trivial
 ·replace h:=ae c15 h;refine .cC rfl c15 ?_;refine .ak (.mv rfl<|.mv rfl<|.cm rfl rfl rfl<|.av rfl<|.nil) rfl ?_;by_cases c16:(decide (v9>(IntKind.i64.wrap (v11*v13))))=true
  ·replace h:=ab c16 h;refine .bT rfl c16 ?_;refine .ak (.av rfl<|.nil) rfl ?_;cases h;refine .aF (fun _ _ hb=>hb) rfl (.t1 (.tmp rfl)) (.refl _) trivial trivial
  ·replace h:=ae c16 h;refine .cC rfl c16 ?_;refine .ak (.mv rfl<|.cm rfl rfl rfl<|.av rfl<|.nil) rfl ?_;by_cases c17:(v9==0)=true
   ·replace h:=ab c17 h;refine .bT rfl c17 ?_;refine .ak (.av rfl<|.nil) rfl ?_;cases h;refine .aF (fun _ _ hb=>hb) rfl (.t1 (.tmp rfl)) (.refl _) trivial trivial
   ·replace h:=ae c17 h;refine .cC rfl c17 ?_;refine .skip (Ok.on ?_);obtain⟨v18,e19,h⟩:=bind_some h;refine .ak (.fa rfl aW<|.bg (qC (v7)) rfl rfl aa rfl rfl<|.fa rfl aP<|.bg (qC (a2)) rfl rfl aa rfl rfl<|.af (di e19) ⟨rfl,rfl,trivial⟩ trivial trivial<|.eZ (qC (0)) ay ⟨eB,ep,ee,trivial⟩ rfl<|.cc (qC (v18)) rfl rfl rfl aa rfl rfl rfl<|.nil) rfl ?_;obtain⟨v20,e21,h⟩:=bind_some h;obtain⟨v22,e23,h⟩:=bind_some h;obtain⟨v24,e25,h⟩:=bind_some h;obtain⟨v26,e27,h⟩:=bind_some h;obtain⟨v28,e29,h⟩:=bind_some h;obtain⟨v30,e31,h⟩:=bind_some h;obtain⟨v32,e33,h⟩:=bind_some h;refine .cn bP (.fa rfl aW<|.bg (qC (v7)) rfl rfl aa rfl rfl<|.fa rfl aW<|.bg (qC (v7)) rfl rfl aa rfl rfl<|.af (di e21) ⟨rfl,rfl,trivial⟩ trivial trivial<|.fa rfl aP<|.bg (qC (a2)) rfl rfl aa rfl rfl<|.fa rfl aP<|.bg (qC (a2)) rfl rfl aa rfl rfl<|.af (di e23) ⟨rfl,rfl,trivial⟩ trivial trivial<|.fa rfl aX<|.bg (qC (a3)) rfl rfl aa rfl rfl<|.af (di e25) ⟨rfl,rfl,trivial⟩ trivial trivial<|.af (fL e27) ⟨rfl,rfl,trivial⟩ trivial trivial<|.fa rfl aP<|.bg (qC (a5)) rfl rfl aa rfl rfl<|.fa rfl aP<|.bg (qC (a5)) rfl rfl aa rfl rfl<|.af (di e29) ⟨rfl,rfl,trivial⟩ trivial trivial<|.fa rfl aX<|.bg (qC (a6)) rfl rfl aa rfl rfl<|.af (di e31) ⟨rfl,rfl,trivial⟩ trivial trivial<|.af (kv e33) ⟨rfl,rfl,trivial⟩ trivial trivial<|.eZ (qC (0)) ay ⟨eB,ep,ee,trivial⟩ rfl<|.cc (qC (v32)) rfl rfl rfl aa rfl rfl rfl<|.nil) rfl (by kernel_rfl) ?_;obtain⟨v34,e35,h⟩:=bind_some h;obtain⟨v36,e37,h⟩:=bind_some h;refine .cn bP (.mv rfl<|.bg (qC (v32)) rfl rfl aa rfl rfl<|.bg (qC (v18)) rfl rfl aa rfl rfl<|.bg (qC (v18)) rfl rfl aa rfl rfl<|.af (fL e35) ⟨rfl,rfl,trivial⟩ trivial trivial<|.fa rfl aX<|.bg (qC (a3)) rfl rfl aa rfl rfl<|.jb (qC (v32)++qC (v34)++qC (a3)) [(0,_,qD v32,qC (v32)),(3,_,qD v34,qC (v34)),(6,_,qD a3,qC (a3))] bZ cj ⟨rfl,rfl,.agg _,rfl,rfl,rfl,.agg _,rfl,rfl,rfl,.agg _,rfl,trivial⟩ ⟨rfl,rfl,rfl,trivial⟩ ⟨.refl _,.refl _,.refl _,.refl _,.refl _,.refl _,.refl _,.refl _,.refl _,trivial⟩<|.af (oi e37) ⟨rfl,trivial⟩ trivial trivial<|.ar rfl rfl rfl<|.av rfl<|.nil) rfl (by kernel_rfl) ?_;cases h;refine .aF (fun _ _ hb=>hb) rfl (.t1 (.tmp rfl)) (.refl _) trivial trivial
def gW(a1:Rat)(a2:Rat)(a3:Rat)(a4:Rat)(a5:Rat)(a6:Rat):Option (Int×Int):=(cq a3).bind fun v7=>(if(decide (v7<0))=true then some (0,8)else(cq a6).bind fun v10=>(if(decide (v10<0))=true then some (0,8)else(hZ a1 a2 a3 a4 a5 a6).bind fun v13=>some (v13,0)))
theorem pT{a1:Rat}{a2:Rat}{a3:Rat}{a4:Rat}{a5:Rat}{a6:Rat}{r15:Int}{r16:Int}(h:gW a1 a2 a3 a4 a5 a6=some (r15,r16)):bb PP 119 [] [D.agg (qC (a1)++qC (a2)++qC (a3)),D.agg (qC (a4)++qC (a5)++qC (a6))] [] (D.fA [D.int .i64 r15,D.int .i64 r16]):=by
 unfold gW at h;refine .of Go.Proofs.Tryz.func119 rfl (by kernel_rfl) rfl rfl rfl rfl rfl rfl (fun A w0 L b=>?_);show Ok PP _ [(0,D.agg (qC (a1)++qC (a2)++qC (a3))),(1,D.agg (qC (a4)++qC (a5)++qC (a6)))] [] _ _;refine .ak (.iL rfl rfl<|.iL rfl rfl<|.av rfl<|.av rfl<|.nil) rfl ?_;refine .sq ?_;obtain⟨v7,e8,h⟩:=bind_some h;by_cases c9:(decide (v7<0))=true
 ·replace h:=ab c9 h;refine .ak (.fa rfl aX<|.bg (qC (a3)) rfl rfl aa rfl rfl<|.af (cV e8) ⟨rfl,trivial⟩ trivial trivial<|.cm rfl rfl rfl<|.mv rfl<|.gk c9<|.gk c9<|.gk c9<|.gk c9<|.an rfl c9 rfl<|.nil) rfl ?_;refine .bT rfl rfl ?_;refine .ak (.av rfl<|.av rfl<|.nil) rfl ?_;cases h;refine .aF (fun _ _ hb=>hb) rfl (.cons (.tmp rfl) (.t1 (.tmp rfl))) (.refl _) trivial trivial
 ·replace h:=ae c9 h;obtain⟨v10,e11,h⟩:=bind_some h;refine .ak (.fa rfl aX<|.bg (qC (a3)) rfl rfl aa rfl rfl<|.af (cV e8) ⟨rfl,trivial⟩ trivial trivial<|.cm rfl rfl rfl<|.mv rfl<|.gz c9<|.fa rfl aX<|.gz c9<|.bg (qC (a6)) rfl rfl aa rfl rfl<|.gz c9<|.af (cV e11) ⟨rfl,trivial⟩ trivial trivial<|.gz c9<|.cm rfl rfl rfl<|.al rfl c9 rfl<|.nil) rfl ?_;by_cases c12:(decide (v10<0))=true
  ·replace h:=ab c12 h;refine .bT rfl c12 ?_;refine .ak (.av rfl<|.av rfl<|.nil) rfl ?_;cases h;refine .aF (fun _ _ hb=>hb) rfl (.cons (.tmp rfl) (.t1 (.tmp rfl))) (.refl _) trivial trivial
  ·replace h:=ae c12 h;refine .cC rfl c12 ?_;refine .skip (Ok.on ?_);obtain⟨v13,e14,h⟩:=bind_some h;refine .ak (.bg (qC (a1)++qC (a2)++qC (a3)) rfl rfl bI rfl rfl<|.bg (qC (a4)++qC (a5)++qC (a6)) rfl rfl bI rfl rfl<|.af (mG e14) ⟨rfl,rfl,trivial⟩ trivial trivial<|.av rfl<|.av rfl<|.nil) rfl ?_;cases h;refine .aF (fun _ _ hb=>hb) rfl (.cons (.tmp rfl) (.t1 (.tmp rfl))) (.refl _) trivial trivial
def ir(a1:Rat)(a2:Rat)(a3:Rat):Option (Rat×Rat×Rat):=(cq a2).bind fun v4=>(if(v4==0)=true then some (a1,0,0)else(yr a3).bind fun(v7,v8)=>(if v8=true then(cx a2 v7).bind fun v11=>(dH a1 v11).bind fun v13=>some (v13,0,0)else(m_ a3).bind fun v15=>(cK a2 v15).bind fun v17=>(Af a3).bind fun v19=>(m_ a3).bind fun v21=>(cx v19 v21).bind fun v23=>some (a1,v17,v23)))
theorem l_{a1:Rat}{a2:Rat}{a3:Rat}{r25:Rat}{r26:Rat}{r27:Rat}(h:ir a1 a2 a3=some (r25,r26,r27)):bb PP 192 [] [D.agg (qC (a1)++qC (a2)++qC (a3))] [] (D.agg (qC (r25)++qC (r26)++qC (r27))):=by
 unfold ir at h;refine .of Go.Proofs.Tryz.func192 rfl (by kernel_rfl) rfl rfl rfl rfl rfl rfl (fun A w0 L b=>?_);show Ok PP _ [(0,D.agg (qC (a1)++qC (a2)++qC (a3)))] [] _ _;refine .ak (.iL rfl rfl<|.eZ (qC (0)++qC (0)++qC (0)) bZ ⟨eB,ep,ee,eB,ep,ee,eB,ep,ee,trivial⟩ rfl<|.nil) rfl ?_;refine .sq ?_;obtain⟨v4,e5,h⟩:=bind_some h;refine .ak (.fa rfl aP<|.bg (qC (a2)) rfl rfl aa rfl rfl<|.af (cV e5) ⟨rfl,trivial⟩ trivial trivial<|.cm rfl rfl rfl<|.nil) rfl ?_;by_cases c6:(v4==0)=true
 ·replace h:=ab c6 h;refine .bT rfl c6 ?_;refine .ak (.fa rfl aW<|.bg (qC (a1)) rfl rfl aa rfl rfl<|.jb (qC (a1)++qC (0)++qC (0)) [(0,_,qD a1,qC (a1))] bZ cj ⟨rfl,rfl,.agg _,rfl,trivial⟩ ⟨rfl,trivial⟩ ⟨.refl _,.refl _,.refl _,eB,ep,ee,eB,ep,ee,trivial⟩<|.cc (qC (a1)++qC (0)++qC (0)) rfl rfl rfl bI rfl rfl rfl<|.nil) rfl ?_;cases h;refine .aF (fun _ _ hb=>hb) rfl (.cons (.agg rfl rfl bI rfl) .nil) (.refl _) trivial trivial
 ·replace h:=ae c6 h;refine .cC rfl c6 ?_;refine .skip (Ok.on ?_);refine .sq ?_;obtain⟨⟨v7,v8⟩,e9,h⟩:=bind_some h;refine .ak (.fa rfl aX<|.bg (qC (a3)) rfl rfl aa rfl rfl<|.af (A1 e9) ⟨rfl,trivial⟩ trivial trivial<|.mv rfl<|.ext rfl rfl<|.ext rfl rfl<|.eZ (qC (0)) ay ⟨eB,ep,ee,trivial⟩ rfl<|.cc (qC (v7)) rfl rfl rfl aa rfl rfl rfl<|.av rfl<|.nil) rfl ?_;refine .ak (.mv rfl<|.nil) rfl ?_;by_cases c10:v8=true
  ·replace h:=ab c10 h;refine .bT rfl c10 ?_;obtain⟨v11,e12,h⟩:=bind_some h;obtain⟨v13,e14,h⟩:=bind_some h;refine .cn bP (.fa rfl aW<|.bg (qC (a1)) rfl rfl aa rfl rfl<|.fa rfl aP<|.bg (qC (a2)) rfl rfl aa rfl rfl<|.bg (qC (v7)) rfl rfl aa rfl rfl<|.af (di e12) ⟨rfl,rfl,trivial⟩ trivial trivial<|.af (fL e14) ⟨rfl,rfl,trivial⟩ trivial trivial<|.jb (qC (v13)++qC (0)++qC (0)) [(0,_,qD v13,qC (v13))] bZ cj ⟨rfl,rfl,.agg _,rfl,trivial⟩ ⟨rfl,trivial⟩ ⟨.refl _,.refl _,.refl _,eB,ep,ee,eB,ep,ee,trivial⟩<|.cc (qC (v13)++qC (0)++qC (0)) rfl rfl rfl bI rfl rfl rfl<|.nil) rfl (by kernel_rfl) ?_;cases h;refine .aF (fun _ _ hb=>hb) rfl (.cons (.agg rfl rfl bI rfl) .nil) (.refl _) trivial trivial
  ·replace h:=ae c10 h;refine .cC rfl c10 ?_;refine .skip (Ok.on ?_);obtain⟨v15,e16,h⟩:=bind_some h;obtain⟨v17,e18,h⟩:=bind_some h;obtain⟨v19,e20,h⟩:=bind_some h;obtain⟨v21,e22,h⟩:=bind_some h;obtain⟨v23,e24,h⟩:=bind_some h;refine .cn bP (.fa rfl aW<|.bg (qC (a1)) rfl rfl aa rfl rfl<|.fa rfl aP<|.bg (qC (a2)) rfl rfl aa rfl rfl<|.fa rfl aX<|.bg (qC (a3)) rfl rfl aa rfl rfl<|.af (tN e16) ⟨rfl,trivial⟩ trivial trivial<|.af (e_ e18) ⟨rfl,rfl,trivial⟩ trivial trivial<|.fa rfl aX<|.bg (qC (a3)) rfl rfl aa rfl rfl<|.af (BR e20) ⟨rfl,trivial⟩ trivial trivial<|.fa rfl aX<|.bg (qC (a3)) rfl rfl aa rfl rfl<|.af (tN e22) ⟨rfl,trivial⟩ trivial trivial<|.af (di e24) ⟨rfl,rfl,trivial⟩ trivial trivial<|.jb (qC (a1)++qC (v17)++qC (v23)) [(0,_,qD a1,qC (a1)),(3,_,qD v17,qC (v17)),(6,_,qD v23,qC (v23))] bZ cj ⟨rfl,rfl,.agg _,rfl,rfl,rfl,.agg _,rfl,rfl,rfl,.agg _,rfl,trivial⟩ ⟨rfl,rfl,rfl,trivial⟩ ⟨.refl _,.refl _,.refl _,.refl _,.refl _,.refl _,.refl _,.refl _,.refl _,trivial⟩<|.cc (qC (a1)++qC (v17)++qC (v23)) rfl rfl rfl bI rfl rfl rfl<|.nil) rfl (by kernel_rfl) ?_;cases h;refine .aF (fun _ _ hb=>hb) rfl (.cons (.agg rfl rfl bI rfl) .nil) (.refl _) trivial trivial
def fh(a1:Rat)(a2:Rat)(a3:Rat)(v10:Rat)(v41:Rat):Option (St Rat Rat):=(aT 1).bind fun v46=>(dH v41 v46).bind fun v48=>(cK v48 v10).bind fun v50=>(hZ a1 a2 a3 v50 0 0).bind fun v52=>(if(decide (v52>=0))=true then(aT 1).bind fun v55=>(dH v41 v55).bind fun v57=>some (St.next v57)else some (St.done v41))
def fw(a1:Rat)(a2:Rat)(a3:Rat)(a4:Int):Option (Rat×Rat×Int):=(cq a3).bind fun v5=>(if(decide (v5<0))=true then some (0,0,8)else(if(decide (a4<0))=true then some (0,0,3)else(if(decide (a4>64))=true then some (0,0,3)else(uM a4).bind fun v10=>(cx a2 a2).bind fun v12=>(cx v12 a3).bind fun v14=>(cx v14 v10).bind fun v16=>(cx v16 v10).bind fun v18=>(sF v18 0).bind fun(v20,v21)=>((cq a2).bind fun v25=>(if(decide (v25<0))=true then(jf v20).bind fun v28=>some (v28)else some (v20))).bind fun v30=>(cx a1 v10).bind fun v31=>(i3 v31).bind fun v33=>(dH v33 v30).bind fun v35=>(aT 2).bind fun v37=>(gR v35 v37).bind fun v39=>(Loop (fun(s:Rat)=>fh a1 a2 a3 v10 s) v39).bind fun v59=>(cK v59 v10).bind fun v60=>(hZ a1 a2 a3 v60 0 0).bind fun v62=>(if(v62==0)=true then some (v60,v60,0)else(aT 1).bind fun v65=>(dH v59 v65).bind fun v67=>(cK v67 v10).bind fun v69=>some (v60,v69,0)))))
theorem pN{a1:Rat}{a2:Rat}{a3:Rat}{a4:Int}{r71:Rat}{r72:Rat}{r73:Int}(h:fw a1 a2 a3 a4=some (r71,r72,r73)):bb PP 120 [] [D.agg (qC (a1)++qC (a2)++qC (a3)),D.int .i64 a4] [] (D.fA [qD r71,qD r72,D.int .i64 r73]):=by
 unfold fw at h;refine .of Go.Proofs.Tryz.func120 rfl (by kernel_rfl) rfl rfl rfl rfl rfl rfl (fun A w0 L b=>?_);show Ok PP _ [(0,D.agg (qC (a1)++qC (a2)++qC (a3))),(1,D.int .i64 a4)] [] _ _;refine .ak (.iL rfl rfl<|.eZ (qC (0)) ay ⟨eB,ep,ee,trivial⟩ rfl<|.eZ (qC (0)) ay ⟨eB,ep,ee,trivial⟩ rfl<|.av rfl<|.nil) rfl ?_;refine .sq ?_;refine .block ?_;obtain⟨v5,e6,h⟩:=bind_some h;refine .ak (.fa rfl aX<|.bg (qC (a3)) rfl rfl aa rfl rfl<|.af (cV e6) ⟨rfl,trivial⟩ trivial trivial<|.cm rfl rfl rfl<|.av rfl<|.nil) rfl ?_;by_cases c7:(decide (v5<0))=true
 ·replace h:=ab c7 h;refine .bT rfl c7 ?_;refine .ak (.jb (qC (0)) [] ay bw trivial trivial ⟨eB,ep,ee,trivial⟩<|.jb (qC (0)) [] ay bw trivial trivial ⟨eB,ep,ee,trivial⟩<|.cc (qC (0)) rfl rfl rfl aa rfl rfl rfl<|.cc (qC (0)) rfl rfl rfl aa rfl rfl rfl<|.av rfl<|.nil) rfl ?_;cases h;refine .aF (fun _ _ hb=>hb) rfl (.cons (.agg rfl rfl aa rfl) (.cons (.agg rfl rfl aa rfl) (.t1 (.tmp rfl)))) (.refl _) trivial trivial
 ·replace h:=ae c7 h;refine .cC rfl c7 ?_;by_cases c8:(decide (a4<0))=true
  ·replace h:=ab c8 h;refine .ak (.mv rfl<|.cm rfl rfl rfl<|.mv rfl<|.gk c8<|.gk c8<|.an rfl c8 rfl<|.av rfl<|.nil) rfl ?_;refine .bT rfl rfl ?_;refine .ak (.jb (qC (0)) [] ay bw trivial trivial ⟨eB,ep,ee,trivial⟩<|.jb (qC (0)) [] ay bw trivial trivial ⟨eB,ep,ee,trivial⟩<|.cc (qC (0)) rfl rfl rfl aa rfl rfl rfl<|.cc (qC (0)) rfl rfl rfl aa rfl rfl rfl<|.av rfl<|.nil) rfl ?_;cases h;refine .aF (fun _ _ hb=>hb) rfl (.cons (.agg rfl rfl aa rfl) (.cons (.agg rfl rfl aa rfl) (.t1 (.tmp rfl)))) (.refl _) trivial trivial
  ·replace h:=ae c8 h;refine .ak (.mv rfl<|.cm rfl rfl rfl<|.mv rfl<|.gz c8<|.mv rfl<|.gz c8<|.cm rfl rfl rfl<|.al rfl c8 rfl<|.av rfl<|.nil) rfl ?_;by_cases c9:(decide (a4>64))=true
   ·replace h:=ab c9 h;refine .bT rfl c9 ?_;refine .ak (.jb (qC (0)) [] ay bw trivial trivial ⟨eB,ep,ee,trivial⟩<|.jb (qC (0)) [] ay bw trivial trivial ⟨eB,ep,ee,trivial⟩<|.cc (qC (0)) rfl rfl rfl aa rfl rfl rfl<|.cc (qC (0)) rfl rfl rfl aa rfl rfl rfl<|.av rfl<|.nil) rfl ?_;cases h;refine .aF (fun _ _ hb=>hb) rfl (.cons (.agg rfl rfl aa rfl) (.cons (.agg rfl rfl aa rfl) (.t1 (.tmp rfl)))) (.refl _) trivial trivial
   ·replace h:=ae c9 h;refine .cC rfl c9 ?_;refine .skip (Ok.on ?_);obtain⟨v10,e11,h⟩:=bind_some h;refine .ak (.mv rfl<|.af (Bi e11) ⟨rfl,trivial⟩ trivial trivial<|.eZ (qC (0)) ay ⟨eB,ep,ee,trivial⟩ rfl<|.cc (qC (v10)) rfl rfl rfl aa rfl rfl rfl<|.nil) rfl ?_;obtain⟨v12,e13,h⟩:=bind_some h;obtain⟨v14,e15,h⟩:=bind_some h;obtain⟨v16,e17,h⟩:=bind_some h;obtain⟨v18,e19,h⟩:=bind_some h;obtain⟨⟨v20,v21⟩,e22,h⟩:=bind_some h;refine .cn bP (.fa rfl aP<|.bg (qC (a2)) rfl rfl aa rfl rfl<|.fa rfl aP<|.bg (qC (a2)) rfl rfl aa rfl rfl<|.af (di e13) ⟨rfl,rfl,trivial⟩ trivial trivial<|.fa rfl aX<|.bg (qC (a3)) rfl rfl aa rfl rfl<|.af (di e15) ⟨rfl,rfl,trivial⟩ trivial trivial<|.bg (qC (v10)) rfl rfl aa rfl rfl<|.af (di e17) ⟨rfl,rfl,trivial⟩ trivial trivial<|.bg (qC (v10)) rfl rfl aa rfl rfl<|.af (di e19) ⟨rfl,rfl,trivial⟩ trivial trivial<|.af (xL e22) ⟨rfl,rfl,trivial⟩ trivial trivial<|.mv rfl<|.ext rfl rfl<|.ext rfl rfl<|.eZ (qC (0)) ay ⟨eB,ep,ee,trivial⟩ rfl<|.cc (qC (v20)) rfl rfl rfl aa rfl rfl rfl<|.av rfl<|.nil) rfl (by kernel_rfl) ?_;obtain⟨v30,hp24,h⟩:=bind_some h;refine .du (fun i=>v30=i) (fun(i:Rat)=>[(2,D.ref 2 0),(4,D.ref 4 0),(5,D.ref 5 0),(7,D.ref 7 0),(8,D.ref 8 0)]) (fun(i:Rat)=>[(2,Hp.box 126 (qC (a1)++qC (a2)++qC (a3))),(4,Hp.box 28 (qC (0))),(5,Hp.box 28 (qC (0))),(7,Hp.box 28 (qC (v10))),(8,Hp.box 28 (qC (i)))]) ?_ ?_
    ·have ho1:=h;have h:=hp24;obtain⟨v25,e26,h⟩:=bind_some h;refine .ak (.fa rfl aP<|.bg (qC (a2)) rfl rfl aa rfl rfl<|.af (cV e26) ⟨rfl,trivial⟩ trivial trivial<|.cm rfl rfl rfl<|.nil) rfl ?_;by_cases c27:(decide (v25<0))=true
     ·replace h:=ab c27 h;refine .bT rfl c27 ?_;obtain⟨v28,e29,h⟩:=bind_some h;refine .region (.bg (qC (v20)) rfl rfl aa rfl rfl<|.af (m1 e29) ⟨rfl,trivial⟩ trivial trivial<|.cc (qC (v28)) rfl rfl rfl aa rfl rfl rfl<|.nil) rfl (fun _ _ hs=>⟨v28,(sj h),hs.sub (.of rfl) (.of rfl) rfl rfl⟩)
     ·replace h:=ae c27 h;refine .cC rfl c27 ?_;refine .skip (fun _ _ hs=>⟨v20,(sj h),hs.sub (.of rfl) (.of rfl) rfl rfl⟩)
    ·rintro _ rfl
     try dsimp only
     obtain⟨v31,e32,h⟩:=bind_some h;obtain⟨v33,e34,h⟩:=bind_some h;obtain⟨v35,e36,h⟩:=bind_some h;obtain⟨v37,e38,h⟩:=bind_some h;obtain⟨v39,e40,h⟩:=bind_some h;refine .cn bP (.fa rfl aW<|.bg (qC (a1)) rfl rfl aa rfl rfl<|.bg (qC (v10)) rfl rfl aa rfl rfl<|.af (di e32) ⟨rfl,rfl,trivial⟩ trivial trivial<|.af (nh e34) ⟨rfl,trivial⟩ trivial trivial<|.bg (qC (v30)) rfl rfl aa rfl rfl<|.af (fL e36) ⟨rfl,rfl,trivial⟩ trivial trivial<|.af (bA e38) ⟨rfl,trivial⟩ trivial trivial<|.af (kv e40) ⟨rfl,rfl,trivial⟩ trivial trivial<|.eZ (qC (0)) ay ⟨eB,ep,ee,trivial⟩ rfl<|.cc (qC (v39)) rfl rfl rfl aa rfl rfl rfl<|.nil) rfl (by kernel_rfl) ?_;obtain⟨v59,hl43,h⟩:=bind_some h;refine .du (fun i=>v59=i) (fun(i:Rat)=>[(2,D.ref 2 0),(4,D.ref 4 0),(5,D.ref 5 0),(7,D.ref 7 0),(10,D.ref 10 0)]) (fun(i:Rat)=>[(2,Hp.box 126 (qC (a1)++qC (a2)++qC (a3))),(4,Hp.box 28 (qC (0))),(5,Hp.box 28 (qC (0))),(7,Hp.box 28 (qC (v10))),(10,Hp.box 28 (qC (i)))]) ?_ ?_
     ·have ho1:=h;refine .block (.cY (fun(s:Rat)=>[(2,D.ref 2 0),(4,D.ref 4 0),(5,D.ref 5 0),(7,D.ref 7 0),(10,D.ref 10 0)]) (fun(s:Rat)=>[(2,Hp.box 126 (qC (a1)++qC (a2)++qC (a3))),(4,Hp.box 28 (qC (0))),(5,Hp.box 28 (qC (0))),(7,Hp.box 28 (qC (v10))),(10,Hp.box 28 (qC (s)))]) hl43 (.of rfl) (.of rfl) rfl rfl ?_);rintro v41 st44 hb45;have h:fh a1 a2 a3 v10 v41=some st44:=hb45;unfold fh at h
      try dsimp only
      refine .sq ?_;obtain⟨v46,e47,h⟩:=bind_some h;obtain⟨v48,e49,h⟩:=bind_some h;obtain⟨v50,e51,h⟩:=bind_some h;obtain⟨v52,e53,h⟩:=bind_some h;refine .cn bP (.bg (qC (a1)++qC (a2)++qC (a3)) rfl rfl bI rfl rfl<|.bg (qC (v41)) rfl rfl aa rfl rfl<|.af (bA e47) ⟨rfl,trivial⟩ trivial trivial<|.af (fL e49) ⟨rfl,rfl,trivial⟩ trivial trivial<|.bg (qC (v10)) rfl rfl aa rfl rfl<|.af (e_ e51) ⟨rfl,rfl,trivial⟩ trivial trivial<|.jb (qC (v50)++qC (0)++qC (0)) [(0,_,qD v50,qC (v50))] bZ cj ⟨rfl,rfl,.agg _,rfl,trivial⟩ ⟨rfl,trivial⟩ ⟨.refl _,.refl _,.refl _,eB,ep,ee,eB,ep,ee,trivial⟩<|.af (mG e53) ⟨rfl,rfl,trivial⟩ trivial trivial<|.cm rfl rfl rfl<|.nil) rfl (by kernel_rfl) ?_;by_cases c54:(decide (v52>=0))=true
      ·replace h:=ab c54 h;refine .bT rfl c54 ?_;refine .skip (Ok.on ?_);refine .block ?_;obtain⟨v55,e56,h⟩:=bind_some h;obtain⟨v57,e58,h⟩:=bind_some h;refine .cJ bP (.bg (qC (v41)) rfl rfl aa rfl rfl<|.af (bA e56) ⟨rfl,trivial⟩ trivial trivial<|.af (fL e58) ⟨rfl,rfl,trivial⟩ trivial trivial<|.cc (qC (v57)) rfl rfl rfl aa rfl rfl rfl<|.nil) rfl (by kernel_rfl) (fun _ _ hs=>⟨v57,(sj h),hs.sub (.of rfl) (.of rfl) rfl rfl⟩)
      ·replace h:=ae c54 h;refine .cC rfl c54 ?_;refine .exit (fun _ _ hs=>⟨_,(sj h),fun e=>⟨v41,e.symm,hs.sub (.of rfl) (.of rfl) rfl rfl⟩⟩)
     ·rintro _ rfl
      try dsimp only
      refine .sq ?_;obtain⟨v60,e61,h⟩:=bind_some h;refine .ak (.bg (qC (v59)) rfl rfl aa rfl rfl<|.bg (qC (v10)) rfl rfl aa rfl rfl<|.af (e_ e61) ⟨rfl,rfl,trivial⟩ trivial trivial<|.cc (qC (v60)) rfl rfl rfl aa rfl rfl rfl<|.nil) rfl ?_;obtain⟨v62,e63,h⟩:=bind_some h;refine .ak (.bg (qC (a1)++qC (a2)++qC (a3)) rfl rfl bI rfl rfl<|.bg (qC (v60)) rfl rfl aa rfl rfl<|.jb (qC (v60)++qC (0)++qC (0)) [(0,_,qD v60,qC (v60))] bZ cj ⟨rfl,rfl,.agg _,rfl,trivial⟩ ⟨rfl,trivial⟩ ⟨.refl _,.refl _,.refl _,eB,ep,ee,eB,ep,ee,trivial⟩<|.af (mG e63) ⟨rfl,rfl,trivial⟩ trivial trivial<|.cm rfl rfl rfl<|.nil) rfl ?_;by_cases c64:(v62==0)=true
      ·replace h:=ab c64 h;refine .bT rfl c64 ?_;refine .ak (.bg (qC (v60)) rfl rfl aa rfl rfl<|.bg (qC (v60)) rfl rfl aa rfl rfl<|.cc (qC (v60)) rfl rfl rfl aa rfl rfl rfl<|.cc (qC (v60)) rfl rfl rfl aa rfl rfl rfl<|.av rfl<|.nil) rfl ?_;cases h;refine .aF (fun _ _ hb=>hb) rfl (.cons (.agg rfl rfl aa rfl) (.cons (.agg rfl rfl aa rfl) (.t1 (.tmp rfl)))) (.refl _) trivial trivial
      ·replace h:=ae c64 h;refine .cC rfl c64 ?_;refine .skip (Ok.on ?_);obtain⟨v65,e66,h⟩:=bind_some h;obtain⟨v67,e68,h⟩:=bind_some h;obtain⟨v69,e70,h⟩:=bind_some h;refine .cn bP (.bg (qC (v60)) rfl rfl aa rfl rfl<|.bg (qC (v59)) rfl rfl aa rfl rfl<|.af (bA e66) ⟨rfl,trivial⟩ trivial trivial<|.af (fL e68) ⟨rfl,rfl,trivial⟩ trivial trivial<|.bg (qC (v10)) rfl rfl aa rfl rfl<|.af (e_ e70) ⟨rfl,rfl,trivial⟩ trivial trivial<|.cc (qC (v60)) rfl rfl rfl aa rfl rfl rfl<|.cc (qC (v69)) rfl rfl rfl aa rfl rfl rfl<|.av rfl<|.nil) rfl (by kernel_rfl) ?_;cases h;refine .aF (fun _ _ hb=>hb) rfl (.cons (.agg rfl rfl aa rfl) (.cons (.agg rfl rfl aa rfl) (.t1 (.tmp rfl)))) (.refl _) trivial trivial
def ff(a1:Rat)(a2:Rat)(a3:Rat):Option ((List (Rat×Rat×Rat))×Int):=(cq a1).bind fun v4=>(if(v4 !=0)=true then(cx a2 a2).bind fun v7=>(aT 4).bind fun v9=>(cx v9 a1).bind fun v11=>(cx v11 a3).bind fun v13=>(gR v7 v13).bind fun v15=>(dH a1 a1).bind fun v17=>(cK a2 v17).bind fun v19=>(jf v19).bind fun v21=>(aT 1).bind fun v23=>(dH a1 a1).bind fun v25=>(cK v23 v25).bind fun v27=>(tG v27).bind fun v29=>(cq v15).bind fun v31=>(if(v31==(-1))=true then some ([],0)else(if(v31==0)=true then some ([(v21,0,0)],0)else(jf v29).bind fun v35=>(ir v21 v35 v15).bind fun(v37,v38,v39)=>(ir v21 v29 v15).bind fun(v41,v42,v43)=>some ([(v37,v38,v39),(v41,v42,v43)],0)))else(cq a2).bind fun v45=>(if(v45 !=0)=true then(cK a3 a2).bind fun v48=>(jf v48).bind fun v50=>some ([(v50,0,0)],0)else(cq a3).bind fun v52=>(if(v52 !=0)=true then some ([],0)else some ([],10))))
theorem lY{a1:Rat}{a2:Rat}{a3:Rat}{r55:List (Rat×Rat×Rat)}{r56:Int}(h:ff a1 a2 a3=some (r55,r56)):bb PP 101 [] [qD a1,qD a2,qD a3] [] (D.fA [br (aK.prod aK.rat (aK.prod aK.rat aK.rat)) r55,D.int .i64 r56]):=by
 unfold ff at h;refine .of Go.Proofs.Tryz.func101 rfl (by kernel_rfl) rfl rfl rfl rfl rfl rfl (fun A w0 L b=>?_);show Ok PP _ [(0,qD a1),(1,qD a2),(2,qD a3)] [] _ _;refine .ak (.iL rfl rfl<|.iL rfl rfl<|.iL rfl rfl<|.av rfl<|.av rfl<|.nil) rfl ?_;refine .sq ?_;refine .block ?_;obtain⟨v4,e5,h⟩:=bind_some h;refine .ak (.bg (qC (a1)) rfl rfl aa rfl rfl<|.af (cV e5) ⟨rfl,trivial⟩ trivial trivial<|.cm rfl rfl rfl<|.av rfl<|.nil) rfl ?_;by_cases c6:(v4 !=0)=true
 ·replace h:=ab c6 h;refine .bT rfl c6 ?_;refine .skip (Ok.on ?_);obtain⟨v7,e8,h⟩:=bind_some h;obtain⟨v9,e10,h⟩:=bind_some h;obtain⟨v11,e12,h⟩:=bind_some h;obtain⟨v13,e14,h⟩:=bind_some h;obtain⟨v15,e16,h⟩:=bind_some h;refine .cn bP (.bg (qC (a2)) rfl rfl aa rfl rfl<|.bg (qC (a2)) rfl rfl aa rfl rfl<|.af (di e8) ⟨rfl,rfl,trivial⟩ trivial trivial<|.af (bA e10) ⟨rfl,trivial⟩ trivial trivial<|.bg (qC (a1)) rfl rfl aa rfl rfl<|.af (di e12) ⟨rfl,rfl,trivial⟩ trivial trivial<|.bg (qC (a3)) rfl rfl aa rfl rfl<|.af (di e14) ⟨rfl,rfl,trivial⟩ trivial trivial<|.af (kv e16) ⟨rfl,rfl,trivial⟩ trivial trivial<|.eZ (qC (0)) ay ⟨eB,ep,ee,trivial⟩ rfl<|.cc (qC (v15)) rfl rfl rfl aa rfl rfl rfl<|.nil) rfl (by kernel_rfl) ?_;obtain⟨v17,e18,h⟩:=bind_some h;obtain⟨v19,e20,h⟩:=bind_some h;obtain⟨v21,e22,h⟩:=bind_some h;obtain⟨v23,e24,h⟩:=bind_some h;obtain⟨v25,e26,h⟩:=bind_some h;obtain⟨v27,e28,h⟩:=bind_some h;obtain⟨v29,e30,h⟩:=bind_some h;refine .cn bP (.bg (qC (a2)) rfl rfl aa rfl rfl<|.bg (qC (a1)) rfl rfl aa rfl rfl<|.bg (qC (a1)) rfl rfl aa rfl rfl<|.af (fL e18) ⟨rfl,rfl,trivial⟩ trivial trivial<|.af (e_ e20) ⟨rfl,rfl,trivial⟩ trivial trivial<|.af (m1 e22) ⟨rfl,trivial⟩ trivial trivial<|.af (bA e24) ⟨rfl,trivial⟩ trivial trivial<|.bg (qC (a1)) rfl rfl aa rfl rfl<|.bg (qC (a1)) rfl rfl aa rfl rfl<|.af (fL e26) ⟨rfl,rfl,trivial⟩ trivial trivial<|.af (e_ e28) ⟨rfl,rfl,trivial⟩ trivial trivial<|.af (xz e30) ⟨rfl,trivial⟩ trivial trivial<|.eZ (qC (0)) ay ⟨eB,ep,ee,trivial⟩ rfl<|.eZ (qC (0)) ay ⟨eB,ep,ee,trivial⟩ rfl<|.cc (qC (v21)) rfl rfl rfl aa rfl rfl rfl<|.cc (qC (v29)) rfl rfl rfl aa rfl rfl rfl<|.nil) rfl (by kernel_rfl) ?_;refine .sq ?_;obtain⟨v31,e32,h⟩:=bind_some h;refine .ak (.bg (qC (v15)) rfl rfl aa rfl rfl<|.af (cV e32) ⟨rfl,trivial⟩ trivial trivial<|.nil) rfl ?_;refine .block ?_;refine .ak (.cm rfl rfl rfl<|.av rfl<|.nil) rfl ?_;by_cases c33:(v31==(-1))=true
  ·replace h:=ab c33 h;refine .bT rfl c33 ?_;refine .ak (.av rfl<|.av rfl<|.nil) rfl ?_;cases h;refine .aF (fun _ _ hb=>hb) rfl (.cons (.tmp rfl) (.t1 (.tmp rfl))) (.fA ⟨.iZ _,.refl _,trivial⟩) trivial trivial
  ·replace h:=ae c33 h;refine .cC rfl c33 ?_;refine .ak (.cm rfl rfl rfl<|.av rfl<|.nil) rfl ?_;by_cases c34:(v31==0)=true
   ·replace h:=ab c34 h;refine .bT rfl c34 ?_;refine .ak (.bg (qC (v21)) rfl rfl aa rfl rfl<|.jb (qC (v21)++qC (0)++qC (0)) [(0,_,qD v21,qC (v21))] bZ cj ⟨rfl,rfl,.agg _,rfl,trivial⟩ ⟨rfl,trivial⟩ ⟨.refl _,.refl _,.refl _,eB,ep,ee,eB,ep,ee,trivial⟩<|.uV (e:=(aK.prod aK.rat (aK.prod aK.rat aK.rat))) [(v21,0,0)] [(0,_,D.agg (qC (v21)++qC (0)++qC (0)),qC (v21)++qC (0)++qC (0))] jg rfl rfl rfl ⟨rfl,rfl,.agg _,rfl,trivial⟩ ⟨rfl,trivial⟩ rfl rfl<|.av rfl<|.av rfl<|.nil) rfl ?_;cases h;refine .aF (fun _ _ hb=>hb) rfl (.cons (.tmp rfl) (.t1 (.tmp rfl))) (.refl _) trivial trivial
   ·replace h:=ae c34 h;refine .cC rfl c34 ?_;refine .skip (Ok.on ?_);obtain⟨v35,e36,h⟩:=bind_some h;obtain⟨⟨v37,v38,v39⟩,e40,h⟩:=bind_some h;obtain⟨⟨v41,v42,v43⟩,e44,h⟩:=bind_some h;refine .cn bP (.bg (qC (v21)) rfl rfl aa rfl rfl<|.bg (qC (v29)) rfl rfl aa rfl rfl<|.af (m1 e36) ⟨rfl,trivial⟩ trivial trivial<|.bg (qC (v15)) rfl rfl aa rfl rfl<|.jb (qC (v21)++qC (v35)++qC (v15)) [(0,_,qD v21,qC (v21)),(3,_,qD v35,qC (v35)),(6,_,qD v15,qC (v15))] bZ cj ⟨rfl,rfl,.agg _,rfl,rfl,rfl,.agg _,rfl,rfl,rfl,.agg _,rfl,trivial⟩ ⟨rfl,rfl,rfl,trivial⟩ ⟨.refl _,.refl _,.refl _,.refl _,.refl _,.refl _,.refl _,.refl _,.refl _,trivial⟩<|.af (l_ e40) ⟨rfl,trivial⟩ trivial trivial<|.bg (qC (v21)) rfl rfl aa rfl rfl<|.bg (qC (v29)) rfl rfl aa rfl rfl<|.bg (qC (v15)) rfl rfl aa rfl rfl<|.jb (qC (v21)++qC (v29)++qC (v15)) [(0,_,qD v21,qC (v21)),(3,_,qD v29,qC (v29)),(6,_,qD v15,qC (v15))] bZ cj ⟨rfl,rfl,.agg _,rfl,rfl,rfl,.agg _,rfl,rfl,rfl,.agg _,rfl,trivial⟩ ⟨rfl,rfl,rfl,trivial⟩ ⟨.refl _,.refl _,.refl _,.refl _,.refl _,.refl _,.refl _,.refl _,.refl _,trivial⟩<|.af (l_ e44) ⟨rfl,trivial⟩ trivial trivial<|.uV (e:=(aK.prod aK.rat (aK.prod aK.rat aK.rat))) [(v37,v38,v39),(v41,v42,v43)] [(0,_,D.agg (qC (v37)++qC (v38)++qC (v39)),qC (v37)++qC (v38)++qC (v39)),(9,_,D.agg (qC (v41)++qC (v42)++qC (v43)),qC (v41)++qC (v42)++qC (v43))] jg rfl rfl rfl ⟨rfl,rfl,.agg _,rfl,rfl,rfl,.agg _,rfl,trivial⟩ ⟨rfl,rfl,trivial⟩ rfl rfl<|.av rfl<|.av rfl<|.nil) rfl (by kernel_rfl) ?_;cases h;refine .aF (fun _ _ hb=>hb) rfl (.cons (.tmp rfl) (.t1 (.tmp rfl))) (.refl _) trivial trivial
 ·replace h:=ae c6 h;refine .cC rfl c6 ?_;obtain⟨v45,e46,h⟩:=bind_some h;refine .ak (.bg (qC (a2)) rfl rfl aa rfl rfl<|.af (cV e46) ⟨rfl,trivial⟩ trivial trivial<|.cm rfl rfl rfl<|.av rfl<|.nil) rfl ?_;by_cases c47:(v45 !=0)=true
  ·replace h:=ab c47 h;refine .bT rfl c47 ?_;obtain⟨v48,e49,h⟩:=bind_some h;obtain⟨v50,e51,h⟩:=bind_some h;refine .ak (.bg (qC (a3)) rfl rfl aa rfl rfl<|.bg (qC (a2)) rfl rfl aa rfl rfl<|.af (e_ e49) ⟨rfl,rfl,trivial⟩ trivial trivial<|.af (m1 e51) ⟨rfl,trivial⟩ trivial trivial<|.jb (qC (v50)++qC (0)++qC (0)) [(0,_,qD v50,qC (v50))] bZ cj ⟨rfl,rfl,.agg _,rfl,trivial⟩ ⟨rfl,trivial⟩ ⟨.refl _,.refl _,.refl _,eB,ep,ee,eB,ep,ee,trivial⟩<|.uV (e:=(aK.prod aK.rat (aK.prod aK.rat aK.rat))) [(v50,0,0)] [(0,_,D.agg (qC (v50)++qC (0)++qC (0)),qC (v50)++qC (0)++qC (0))] jg rfl rfl rfl ⟨rfl,rfl,.agg _,rfl,trivial⟩ ⟨rfl,trivial⟩ rfl rfl<|.av rfl<|.av rfl<|.nil) rfl ?_;cases h;refine .aF (fun _ _ hb=>hb) rfl (.cons (.tmp rfl) (.t1 (.tmp rfl))) (.refl _) trivial trivial
  ·replace h:=ae c47 h;refine .cC rfl c47 ?_;obtain⟨v52,e53,h⟩:=bind_some h;refine .ak (.bg (qC (a3)) rfl rfl aa rfl rfl<|.af (cV e53) ⟨rfl,trivial⟩ trivial trivial<|.cm rfl rfl rfl<|.av rfl<|.nil) rfl ?_;by_cases c54:(v52 !=0)=true
   ·replace h:=ab c54 h;refine .bT rfl c54 ?_;refine .ak (.av rfl<|.av rfl<|.nil) rfl ?_;cases h;refine .aF (fun _ _ hb=>hb) rfl (.cons (.tmp rfl) (.t1 (.tmp rfl))) (.fA ⟨.iZ _,.refl _,trivial⟩) trivial trivial
   ·replace h:=ae c54 h;refine .cC rfl c54 ?_;refine .ak (.av rfl<|.av rfl<|.nil) rfl ?_;cases h;refine .aF (fun _ _ hb=>hb) rfl (.cons (.tmp rfl) (.t1 (.tmp rfl))) (.fA ⟨.iZ _,.refl _,trivial⟩) trivial trivial
def ue(a1:Rat):Option (Rat×Rat):=(cx a1 a1).bind fun v2=>(aT 1).bind fun v4=>(dH v4 v2).bind fun v6=>(aT 1).bind fun v8=>(gR v8 v2).bind fun v10=>(cK v10 v6).bind fun v12=>(dH a1 a1).bind fun v14=>(cK v14 v6).bind fun v16=>some (v12,v16)
theorem Aq{a1:Rat}{r18:Rat}{r19:Rat}(h:ue a1=some (r18,r19)):bb PP 61 [] [qD a1] [] (D.agg (qC (r18)++qC (r19))):=by
 unfold ue at h;refine .of Go.Proofs.Tryz.func61 rfl (by kernel_rfl) rfl rfl rfl rfl rfl rfl (fun A w0 L b=>?_);show Ok PP _ [(0,qD a1)] [] _ _;refine .ak (.iL rfl rfl<|.eZ (qC (0)++qC (0)) lf ⟨eB,ep,ee,eB,ep,ee,trivial⟩ rfl<|.nil) rfl ?_;obtain⟨v2,e3,h⟩:=bind_some h;refine .ak (.bg (qC (a1)) rfl rfl aa rfl rfl<|.bg (qC (a1)) rfl rfl aa rfl rfl<|.af (di e3) ⟨rfl,rfl,trivial⟩ trivial trivial<|.eZ (qC (0)) ay ⟨eB,ep,ee,trivial⟩ rfl<|.cc (qC (v2)) rfl rfl rfl aa rfl rfl rfl<|.nil) rfl ?_;obtain⟨v4,e5,h⟩:=bind_some h;obtain⟨v6,e7,h⟩:=bind_some h;refine .cn bP (.af (bA e5) ⟨rfl,trivial⟩ trivial trivial<|.bg (qC (v2)) rfl rfl aa rfl rfl<|.af (fL e7) ⟨rfl,rfl,trivial⟩ trivial trivial<|.eZ (qC (0)) ay ⟨eB,ep,ee,trivial⟩ rfl<|.cc (qC (v6)) rfl rfl rfl aa rfl rfl rfl<|.nil) rfl (by kernel_rfl) ?_;obtain⟨v8,e9,h⟩:=bind_some h;obtain⟨v10,e11,h⟩:=bind_some h;obtain⟨v12,e13,h⟩:=bind_some h;obtain⟨v14,e15,h⟩:=bind_some h;obtain⟨v16,e17,h⟩:=bind_some h;refine .cn bP (.af (bA e9) ⟨rfl,trivial⟩ trivial trivial<|.bg (qC (v2)) rfl rfl aa rfl rfl<|.af (kv e11) ⟨rfl,rfl,trivial⟩ trivial trivial<|.bg (qC (v6)) rfl rfl aa rfl rfl<|.af (e_ e13) ⟨rfl,rfl,trivial⟩ trivial trivial<|.bg (qC (a1)) rfl rfl aa rfl rfl<|.bg (qC (a1)) rfl rfl aa rfl rfl<|.af (fL e15) ⟨rfl,rfl,trivial⟩ trivial trivial<|.bg (qC (v6)) rfl rfl aa rfl rfl<|.af (e_ e17) ⟨rfl,rfl,trivial⟩ trivial trivial<|.jb (qC (v12)++qC (v16)) [(0,_,qD v12,qC (v12)),(3,_,qD v16,qC (v16))] lf sB ⟨rfl,rfl,.agg _,rfl,rfl,rfl,.agg _,rfl,trivial⟩ ⟨rfl,rfl,trivial⟩ ⟨.refl _,.refl _,.refl _,.refl _,.refl _,.refl _,trivial⟩<|.cc (qC (v12)++qC (v16)) rfl rfl rfl kj rfl rfl rfl<|.nil) rfl (by kernel_rfl) ?_;cases h;refine .aF (fun _ _ hb=>hb) rfl (.cons (.agg rfl rfl kj rfl) .nil) (.refl _) trivial trivial
end
end Go.Am
namespace Go.Am
open Go.RowKit
set_option maxRecDepth 100000
noncomputable section
end
end Go.Am
namespace Go.Am
open Go.RowKit
set_option maxRecDepth 100000
noncomputable section
def cg(a1:List UInt8):Option Rat:=(nb a1).bind fun(v2,v3)=>some v2
theorem aY{a1:List UInt8}{r5:Rat}(h:cg a1=some r5):bb PP 100 [] [b_ a1] [] (qD r5):=by
 unfold cg at h;refine .of Go.Proofs.Tryz.func100 rfl (by kernel_rfl) rfl rfl rfl rfl rfl rfl (fun A w0 L b=>?_);show Ok PP _ [(0,b_ a1)] [] _ _;refine .ak (.eZ (qC (0)) ay ⟨eB,ep,ee,trivial⟩ rfl<|.nil) rfl ?_;obtain⟨⟨v2,v3⟩,e4,h⟩:=bind_some h;refine .ak (.mv rfl<|.af (oS e4) ⟨rfl,trivial⟩ trivial trivial<|.mv rfl<|.ext rfl rfl<|.ext rfl rfl<|.eZ (qC (0)) ay ⟨eB,ep,ee,trivial⟩ rfl<|.cc (qC (v2)) rfl rfl rfl aa rfl rfl rfl<|.av rfl<|.nil) rfl ?_;refine .ak (.bg (qC (v2)) rfl rfl aa rfl rfl<|.cc (qC (v2)) rfl rfl rfl aa rfl rfl rfl<|.nil) rfl ?_;cases h;refine .aF (fun _ _ hb=>hb) rfl (.cons (.agg rfl rfl aa rfl) .nil) (.refl _) trivial trivial
def bq(a1:Rat)(a2:List UInt8):Option Bool:=(xD a1).bind fun v3=>some (v3==a2)
theorem ax{a1:Rat}{a2:List UInt8}{r5:Bool}(h:bq a1 a2=some r5):bb PP 141 [] [qD a1,b_ a2] [] (D.bool r5):=by
 unfold bq at h;refine .of Go.Proofs.Tryz.func141 rfl (by kernel_rfl) rfl rfl rfl rfl rfl rfl (fun A w0 L b=>?_);show Ok PP _ [(0,qD a1),(1,b_ a2)] [] _ _;refine .ak (.iL rfl rfl<|.av rfl<|.nil) rfl ?_;obtain⟨v3,e4,h⟩:=bind_some h;refine .ak (.bg (qC (a1)) rfl rfl aa rfl rfl<|.af (Av e4) ⟨rfl,trivial⟩ trivial trivial<|.mv rfl<|.Bm rfl rfl<|.av rfl<|.nil) rfl ?_;cases h;refine .aF (fun _ _ hb=>hb) rfl (.t1 (.tmp rfl)) (.refl _) trivial trivial
def lD:Option Bool:=(nb ([45,49,46,50,53,48]:List UInt8)).bind fun(v1,v2)=>(nb ([54,47,52]:List UInt8)).bind fun(v4,v5)=>(cg ([51,53,53,47,49,49,51]:List UInt8)).bind fun v7=>(yz v7 7).bind fun(v9,v10)=>(aT 2).bind fun v12=>(sF v12 3).bind fun(v14,v15)=>(cg ([49,47,50]:List UInt8)).bind fun v17=>(ue v17).bind fun(v19,v20)=>(if(v2==0)=true then(if(v5==0)=true then(if(v10==0)=true then(if(v15==0)=true then(bq v1 ([45,53,47,52]:List UInt8)).bind fun v26=>(if v26=true then(bq v4 ([51,47,50]:List UInt8)).bind fun v29=>(if v29=true then(bq v9 ([50,50,47,55]:List UInt8)).bind fun v32=>(if v32=true then(bq v14 ([49,49,47,56]:List UInt8)).bind fun v35=>(if v35=true then(bq v19 ([51,47,53]:List UInt8)).bind fun v38=>(if v38=true then(bq v20 ([52,47,53]:List UInt8)).bind fun v41=>(if v41=true then(dH v1 v4).bind fun v44=>(bq v44 ([49,47,52]:List UInt8)).bind fun v46=>(if v46=true then(cx v1 v4).bind fun v49=>(bq v49 ([45,49,53,47,56]:List UInt8)).bind fun v51=>some v51 else some false)else some false)else some false)else some false)else some false)else some false)else some false)else some false)else some false)else some false)else some false)
theorem eo{r53:Bool}(h:lD=some r53):bb PP 22 [] [] [] (D.bool r53):=by
 unfold lD at h;refine .of Go.Proofs.Tryz.func22 rfl (by kernel_rfl) rfl rfl rfl rfl rfl rfl (fun A w0 L b=>?_);show Ok PP _ [] [] _ _;refine .ak (.av rfl<|.nil) rfl ?_;obtain⟨⟨v1,v2⟩,e3,h⟩:=bind_some h;refine .ak (.af (oS e3) ⟨rfl,trivial⟩ trivial trivial<|.mv rfl<|.ext rfl rfl<|.ext rfl rfl<|.eZ (qC (0)) ay ⟨eB,ep,ee,trivial⟩ rfl<|.cc (qC (v1)) rfl rfl rfl aa rfl rfl rfl<|.av rfl<|.nil) rfl ?_;obtain⟨⟨v4,v5⟩,e6,h⟩:=bind_some h;refine .ak (.af (oS e6) ⟨rfl,trivial⟩ trivial trivial<|.mv rfl<|.ext rfl rfl<|.ext rfl rfl<|.eZ (qC (0)) ay ⟨eB,ep,ee,trivial⟩ rfl<|.cc (qC (v4)) rfl rfl rfl aa rfl rfl rfl<|.av rfl<|.nil) rfl ?_;obtain⟨v7,e8,h⟩:=bind_some h;obtain⟨⟨v9,v10⟩,e11,h⟩:=bind_some h;refine .ak (.af (aY e8) ⟨rfl,trivial⟩ trivial trivial<|.af (A6 e11) ⟨rfl,rfl,trivial⟩ trivial trivial<|.mv rfl<|.ext rfl rfl<|.ext rfl rfl<|.eZ (qC (0)) ay ⟨eB,ep,ee,trivial⟩ rfl<|.cc (qC (v9)) rfl rfl rfl aa rfl rfl rfl<|.av rfl<|.nil) rfl ?_;obtain⟨v12,e13,h⟩:=bind_some h;obtain⟨⟨v14,v15⟩,e16,h⟩:=bind_some h;refine .ak (.af (bA e13) ⟨rfl,trivial⟩ trivial trivial<|.af (xL e16) ⟨rfl,rfl,trivial⟩ trivial trivial<|.mv rfl<|.ext rfl rfl<|.ext rfl rfl<|.eZ (qC (0)) ay ⟨eB,ep,ee,trivial⟩ rfl<|.cc (qC (v14)) rfl rfl rfl aa rfl rfl rfl<|.av rfl<|.nil) rfl ?_;obtain⟨v17,e18,h⟩:=bind_some h;obtain⟨⟨v19,v20⟩,e21,h⟩:=bind_some h;refine .ak (.af (aY e18) ⟨rfl,trivial⟩ trivial trivial<|.af (Aq e21) ⟨rfl,trivial⟩ trivial trivial<|.eZ (qC (0)++qC (0)) lf ⟨eB,ep,ee,eB,ep,ee,trivial⟩ rfl<|.cc (qC (v19)++qC (v20)) rfl rfl rfl kj rfl rfl rfl<|.nil) rfl ?_;by_cases c22:(v2==0)=true
 ·replace h:=ab c22 h;by_cases c23:(v5==0)=true
  ·replace h:=ab c23 h;by_cases c24:(v10==0)=true
   ·replace h:=ab c24 h;by_cases c25:(v15==0)=true
    ·replace h:=ab c25 h;obtain⟨v26,e27,h⟩:=bind_some h;by_cases c28:v26=true
     ·replace h:=ab c28 h;obtain⟨v29,e30,h⟩:=bind_some h;by_cases c31:v29=true
      ·replace h:=ab c31 h;obtain⟨v32,e33,h⟩:=bind_some h;by_cases c34:v32=true
       ·replace h:=ab c34 h;obtain⟨v35,e36,h⟩:=bind_some h;by_cases c37:v35=true
        ·replace h:=ab c37 h;obtain⟨v38,e39,h⟩:=bind_some h;by_cases c40:v38=true
         ·replace h:=ab c40 h;obtain⟨v41,e42,h⟩:=bind_some h;by_cases c43:v41=true
          ·replace h:=ab c43 h;obtain⟨v44,e45,h⟩:=bind_some h;obtain⟨v46,e47,h⟩:=bind_some h;by_cases c48:v46=true
           ·replace h:=ab c48 h;obtain⟨v49,e50,h⟩:=bind_some h;obtain⟨v51,e52,h⟩:=bind_some h;refine .ak (.mv rfl<|.cm rfl rfl rfl<|.mv rfl<|.gy c22<|.mv rfl<|.gy c22<|.cm rfl rfl rfl<|.an rfl c22 rfl<|.mv rfl<|.gy c23<|.mv rfl<|.gy c23<|.cm rfl rfl rfl<|.an rfl c23 rfl<|.mv rfl<|.gy c24<|.mv rfl<|.gy c24<|.cm rfl rfl rfl<|.an rfl c24 rfl<|.mv rfl<|.gy c25<|.bg (qC (v1)) rfl rfl aa rfl rfl<|.gy c25<|.af (ax e27) ⟨rfl,rfl,trivial⟩ trivial trivial<|.an rfl c25 rfl<|.mv rfl<|.gy c28<|.bg (qC (v4)) rfl rfl aa rfl rfl<|.gy c28<|.af (ax e30) ⟨rfl,rfl,trivial⟩ trivial trivial<|.an rfl c28 rfl<|.mv rfl<|.gy c31<|.bg (qC (v9)) rfl rfl aa rfl rfl<|.gy c31<|.af (ax e33) ⟨rfl,rfl,trivial⟩ trivial trivial<|.an rfl c31 rfl<|.mv rfl<|.gy c34<|.bg (qC (v14)) rfl rfl aa rfl rfl<|.gy c34<|.af (ax e36) ⟨rfl,rfl,trivial⟩ trivial trivial<|.an rfl c34 rfl<|.mv rfl<|.gy c37<|.fa rfl iw<|.gy c37<|.bg (qC (v19)) rfl rfl aa rfl rfl<|.gy c37<|.af (ax e39) ⟨rfl,rfl,trivial⟩ trivial trivial<|.an rfl c37 rfl<|.mv rfl<|.gy c40<|.fa rfl jL<|.gy c40<|.bg (qC (v20)) rfl rfl aa rfl rfl<|.gy c40<|.af (ax e42) ⟨rfl,rfl,trivial⟩ trivial trivial<|.an rfl c40 rfl<|.mv rfl<|.gy c43<|.bg (qC (v1)) rfl rfl aa rfl rfl<|.gy c43<|.bg (qC (v4)) rfl rfl aa rfl rfl<|.gy c43<|.af (fL e45) ⟨rfl,rfl,trivial⟩ trivial trivial<|.gy c43<|.af (ax e47) ⟨rfl,rfl,trivial⟩ trivial trivial<|.an rfl c43 rfl<|.mv rfl<|.gy c48<|.bg (qC (v1)) rfl rfl aa rfl rfl<|.gy c48<|.bg (qC (v4)) rfl rfl aa rfl rfl<|.gy c48<|.af (di e50) ⟨rfl,rfl,trivial⟩ trivial trivial<|.gy c48<|.af (ax e52) ⟨rfl,rfl,trivial⟩ trivial trivial<|.an rfl c48 rfl<|.av rfl<|.nil) rfl ?_;cases h;refine .aF (fun _ _ hb=>hb) rfl (.t1 (.tmp rfl)) (.refl _) trivial trivial
           ·replace h:=ae c48 h;refine .ak (.mv rfl<|.cm rfl rfl rfl<|.mv rfl<|.gy c22<|.mv rfl<|.gy c22<|.cm rfl rfl rfl<|.an rfl c22 rfl<|.mv rfl<|.gy c23<|.mv rfl<|.gy c23<|.cm rfl rfl rfl<|.an rfl c23 rfl<|.mv rfl<|.gy c24<|.mv rfl<|.gy c24<|.cm rfl rfl rfl<|.an rfl c24 rfl<|.mv rfl<|.gy c25<|.bg (qC (v1)) rfl rfl aa rfl rfl<|.gy c25<|.af (ax e27) ⟨rfl,rfl,trivial⟩ trivial trivial<|.an rfl c25 rfl<|.mv rfl<|.gy c28<|.bg (qC (v4)) rfl rfl aa rfl rfl<|.gy c28<|.af (ax e30) ⟨rfl,rfl,trivial⟩ trivial trivial<|.an rfl c28 rfl<|.mv rfl<|.gy c31<|.bg (qC (v9)) rfl rfl aa rfl rfl<|.gy c31<|.af (ax e33) ⟨rfl,rfl,trivial⟩ trivial trivial<|.an rfl c31 rfl<|.mv rfl<|.gy c34<|.bg (qC (v14)) rfl rfl aa rfl rfl<|.gy c34<|.af (ax e36) ⟨rfl,rfl,trivial⟩ trivial trivial<|.an rfl c34 rfl<|.mv rfl<|.gy c37<|.fa rfl iw<|.gy c37<|.bg (qC (v19)) rfl rfl aa rfl rfl<|.gy c37<|.af (ax e39) ⟨rfl,rfl,trivial⟩ trivial trivial<|.an rfl c37 rfl<|.mv rfl<|.gy c40<|.fa rfl jL<|.gy c40<|.bg (qC (v20)) rfl rfl aa rfl rfl<|.gy c40<|.af (ax e42) ⟨rfl,rfl,trivial⟩ trivial trivial<|.an rfl c40 rfl<|.mv rfl<|.gy c43<|.bg (qC (v1)) rfl rfl aa rfl rfl<|.gy c43<|.bg (qC (v4)) rfl rfl aa rfl rfl<|.gy c43<|.af (fL e45) ⟨rfl,rfl,trivial⟩ trivial trivial<|.gy c43<|.af (ax e47) ⟨rfl,rfl,trivial⟩ trivial trivial<|.an rfl c43 rfl<|.mv rfl<|.gm c48<|.gm c48<|.gm c48<|.gm c48<|.al rfl c48 rfl<|.av rfl<|.nil) rfl ?_;cases h;refine .aF (fun _ _ hb=>hb) rfl (.t1 (.tmp rfl)) (.refl _) trivial trivial
          ·replace h:=ae c43 h;refine .ak (.mv rfl<|.cm rfl rfl rfl<|.mv rfl<|.gy c22<|.mv rfl<|.gy c22<|.cm rfl rfl rfl<|.an rfl c22 rfl<|.mv rfl<|.gy c23<|.mv rfl<|.gy c23<|.cm rfl rfl rfl<|.an rfl c23 rfl<|.mv rfl<|.gy c24<|.mv rfl<|.gy c24<|.cm rfl rfl rfl<|.an rfl c24 rfl<|.mv rfl<|.gy c25<|.bg (qC (v1)) rfl rfl aa rfl rfl<|.gy c25<|.af (ax e27) ⟨rfl,rfl,trivial⟩ trivial trivial<|.an rfl c25 rfl<|.mv rfl<|.gy c28<|.bg (qC (v4)) rfl rfl aa rfl rfl<|.gy c28<|.af (ax e30) ⟨rfl,rfl,trivial⟩ trivial trivial<|.an rfl c28 rfl<|.mv rfl<|.gy c31<|.bg (qC (v9)) rfl rfl aa rfl rfl<|.gy c31<|.af (ax e33) ⟨rfl,rfl,trivial⟩ trivial trivial<|.an rfl c31 rfl<|.mv rfl<|.gy c34<|.bg (qC (v14)) rfl rfl aa rfl rfl<|.gy c34<|.af (ax e36) ⟨rfl,rfl,trivial⟩ trivial trivial<|.an rfl c34 rfl<|.mv rfl<|.gy c37<|.fa rfl iw<|.gy c37<|.bg (qC (v19)) rfl rfl aa rfl rfl<|.gy c37<|.af (ax e39) ⟨rfl,rfl,trivial⟩ trivial trivial<|.an rfl c37 rfl<|.mv rfl<|.gy c40<|.fa rfl jL<|.gy c40<|.bg (qC (v20)) rfl rfl aa rfl rfl<|.gy c40<|.af (ax e42) ⟨rfl,rfl,trivial⟩ trivial trivial<|.an rfl c40 rfl<|.mv rfl<|.gm c43<|.gm c43<|.gm c43<|.gm c43<|.al rfl c43 rfl<|.mv rfl<|.aN<|.aN<|.aN<|.aN<|.al rfl (by decide) rfl<|.av rfl<|.nil) rfl ?_;cases h;refine .aF (fun _ _ hb=>hb) rfl (.t1 (.tmp rfl)) (.refl _) trivial trivial
         ·replace h:=ae c40 h;refine .ak (.mv rfl<|.cm rfl rfl rfl<|.mv rfl<|.gy c22<|.mv rfl<|.gy c22<|.cm rfl rfl rfl<|.an rfl c22 rfl<|.mv rfl<|.gy c23<|.mv rfl<|.gy c23<|.cm rfl rfl rfl<|.an rfl c23 rfl<|.mv rfl<|.gy c24<|.mv rfl<|.gy c24<|.cm rfl rfl rfl<|.an rfl c24 rfl<|.mv rfl<|.gy c25<|.bg (qC (v1)) rfl rfl aa rfl rfl<|.gy c25<|.af (ax e27) ⟨rfl,rfl,trivial⟩ trivial trivial<|.an rfl c25 rfl<|.mv rfl<|.gy c28<|.bg (qC (v4)) rfl rfl aa rfl rfl<|.gy c28<|.af (ax e30) ⟨rfl,rfl,trivial⟩ trivial trivial<|.an rfl c28 rfl<|.mv rfl<|.gy c31<|.bg (qC (v9)) rfl rfl aa rfl rfl<|.gy c31<|.af (ax e33) ⟨rfl,rfl,trivial⟩ trivial trivial<|.an rfl c31 rfl<|.mv rfl<|.gy c34<|.bg (qC (v14)) rfl rfl aa rfl rfl<|.gy c34<|.af (ax e36) ⟨rfl,rfl,trivial⟩ trivial trivial<|.an rfl c34 rfl<|.mv rfl<|.gy c37<|.fa rfl iw<|.gy c37<|.bg (qC (v19)) rfl rfl aa rfl rfl<|.gy c37<|.af (ax e39) ⟨rfl,rfl,trivial⟩ trivial trivial<|.an rfl c37 rfl<|.mv rfl<|.gm c40<|.gm c40<|.gm c40<|.al rfl c40 rfl<|.mv rfl<|.aN<|.aN<|.aN<|.aN<|.al rfl (by decide) rfl<|.mv rfl<|.aN<|.aN<|.aN<|.aN<|.al rfl (by decide) rfl<|.av rfl<|.nil) rfl ?_;cases h;refine .aF (fun _ _ hb=>hb) rfl (.t1 (.tmp rfl)) (.refl _) trivial trivial
        ·replace h:=ae c37 h;refine .ak (.mv rfl<|.cm rfl rfl rfl<|.mv rfl<|.gy c22<|.mv rfl<|.gy c22<|.cm rfl rfl rfl<|.an rfl c22 rfl<|.mv rfl<|.gy c23<|.mv rfl<|.gy c23<|.cm rfl rfl rfl<|.an rfl c23 rfl<|.mv rfl<|.gy c24<|.mv rfl<|.gy c24<|.cm rfl rfl rfl<|.an rfl c24 rfl<|.mv rfl<|.gy c25<|.bg (qC (v1)) rfl rfl aa rfl rfl<|.gy c25<|.af (ax e27) ⟨rfl,rfl,trivial⟩ trivial trivial<|.an rfl c25 rfl<|.mv rfl<|.gy c28<|.bg (qC (v4)) rfl rfl aa rfl rfl<|.gy c28<|.af (ax e30) ⟨rfl,rfl,trivial⟩ trivial trivial<|.an rfl c28 rfl<|.mv rfl<|.gy c31<|.bg (qC (v9)) rfl rfl aa rfl rfl<|.gy c31<|.af (ax e33) ⟨rfl,rfl,trivial⟩ trivial trivial<|.an rfl c31 rfl<|.mv rfl<|.gy c34<|.bg (qC (v14)) rfl rfl aa rfl rfl<|.gy c34<|.af (ax e36) ⟨rfl,rfl,trivial⟩ trivial trivial<|.an rfl c34 rfl<|.mv rfl<|.gm c37<|.gm c37<|.gm c37<|.al rfl c37 rfl<|.mv rfl<|.aN<|.aN<|.aN<|.al rfl (by decide) rfl<|.mv rfl<|.aN<|.aN<|.aN<|.aN<|.al rfl (by decide) rfl<|.mv rfl<|.aN<|.aN<|.aN<|.aN<|.al rfl (by decide) rfl<|.av rfl<|.nil) rfl ?_;cases h;refine .aF (fun _ _ hb=>hb) rfl (.t1 (.tmp rfl)) (.refl _) trivial trivial
       ·replace h:=ae c34 h;refine .ak (.mv rfl<|.cm rfl rfl rfl<|.mv rfl<|.gy c22<|.mv rfl<|.gy c22<|.cm rfl rfl rfl<|.an rfl c22 rfl<|.mv rfl<|.gy c23<|.mv rfl<|.gy c23<|.cm rfl rfl rfl<|.an rfl c23 rfl<|.mv rfl<|.gy c24<|.mv rfl<|.gy c24<|.cm rfl rfl rfl<|.an rfl c24 rfl<|.mv rfl<|.gy c25<|.bg (qC (v1)) rfl rfl aa rfl rfl<|.gy c25<|.af (ax e27) ⟨rfl,rfl,trivial⟩ trivial trivial<|.an rfl c25 rfl<|.mv rfl<|.gy c28<|.bg (qC (v4)) rfl rfl aa rfl rfl<|.gy c28<|.af (ax e30) ⟨rfl,rfl,trivial⟩ trivial trivial<|.an rfl c28 rfl<|.mv rfl<|.gy c31<|.bg (qC (v9)) rfl rfl aa rfl rfl<|.gy c31<|.af (ax e33) ⟨rfl,rfl,trivial⟩ trivial trivial<|.an rfl c31 rfl<|.mv rfl<|.gm c34<|.gm c34<|.al rfl c34 rfl<|.mv rfl<|.aN<|.aN<|.aN<|.al rfl (by decide) rfl<|.mv rfl<|.aN<|.aN<|.aN<|.al rfl (by decide) rfl<|.mv rfl<|.aN<|.aN<|.aN<|.aN<|.al rfl (by decide) rfl<|.mv rfl<|.aN<|.aN<|.aN<|.aN<|.al rfl (by decide) rfl<|.av rfl<|.nil) rfl ?_;cases h;refine .aF (fun _ _ hb=>hb) rfl (.t1 (.tmp rfl)) (.refl _) trivial trivial
      ·replace h:=ae c31 h;refine .ak (.mv rfl<|.cm rfl rfl rfl<|.mv rfl<|.gy c22<|.mv rfl<|.gy c22<|.cm rfl rfl rfl<|.an rfl c22 rfl<|.mv rfl<|.gy c23<|.mv rfl<|.gy c23<|.cm rfl rfl rfl<|.an rfl c23 rfl<|.mv rfl<|.gy c24<|.mv rfl<|.gy c24<|.cm rfl rfl rfl<|.an rfl c24 rfl<|.mv rfl<|.gy c25<|.bg (qC (v1)) rfl rfl aa rfl rfl<|.gy c25<|.af (ax e27) ⟨rfl,rfl,trivial⟩ trivial trivial<|.an rfl c25 rfl<|.mv rfl<|.gy c28<|.bg (qC (v4)) rfl rfl aa rfl rfl<|.gy c28<|.af (ax e30) ⟨rfl,rfl,trivial⟩ trivial trivial<|.an rfl c28 rfl<|.mv rfl<|.gm c31<|.gm c31<|.al rfl c31 rfl<|.mv rfl<|.aN<|.aN<|.al rfl (by decide) rfl<|.mv rfl<|.aN<|.aN<|.aN<|.al rfl (by decide) rfl<|.mv rfl<|.aN<|.aN<|.aN<|.al rfl (by decide) rfl<|.mv rfl<|.aN<|.aN<|.aN<|.aN<|.al rfl (by decide) rfl<|.mv rfl<|.aN<|.aN<|.aN<|.aN<|.al rfl (by decide) rfl<|.av rfl<|.nil) rfl ?_;cases h;refine .aF (fun _ _ hb=>hb) rfl (.t1 (.tmp rfl)) (.refl _) trivial trivial
     ·replace h:=ae c28 h;refine .ak (.mv rfl<|.cm rfl rfl rfl<|.mv rfl<|.gy c22<|.mv rfl<|.gy c22<|.cm rfl rfl rfl<|.an rfl c22 rfl<|.mv rfl<|.gy c23<|.mv rfl<|.gy c23<|.cm rfl rfl rfl<|.an rfl c23 rfl<|.mv rfl<|.gy c24<|.mv rfl<|.gy c24<|.cm rfl rfl rfl<|.an rfl c24 rfl<|.mv rfl<|.gy c25<|.bg (qC (v1)) rfl rfl aa rfl rfl<|.gy c25<|.af (ax e27) ⟨rfl,rfl,trivial⟩ trivial trivial<|.an rfl c25 rfl<|.mv rfl<|.gm c28<|.gm c28<|.al rfl c28 rfl<|.mv rfl<|.aN<|.aN<|.al rfl (by decide) rfl<|.mv rfl<|.aN<|.aN<|.al rfl (by decide) rfl<|.mv rfl<|.aN<|.aN<|.aN<|.al rfl (by decide) rfl<|.mv rfl<|.aN<|.aN<|.aN<|.al rfl (by decide) rfl<|.mv rfl<|.aN<|.aN<|.aN<|.aN<|.al rfl (by decide) rfl<|.mv rfl<|.aN<|.aN<|.aN<|.aN<|.al rfl (by decide) rfl<|.av rfl<|.nil) rfl ?_;cases h;refine .aF (fun _ _ hb=>hb) rfl (.t1 (.tmp rfl)) (.refl _) trivial trivial
    ·replace h:=ae c25 h;refine .ak (.mv rfl<|.cm rfl rfl rfl<|.mv rfl<|.gy c22<|.mv rfl<|.gy c22<|.cm rfl rfl rfl<|.an rfl c22 rfl<|.mv rfl<|.gy c23<|.mv rfl<|.gy c23<|.cm rfl rfl rfl<|.an rfl c23 rfl<|.mv rfl<|.gy c24<|.mv rfl<|.gy c24<|.cm rfl rfl rfl<|.an rfl c24 rfl<|.mv rfl<|.gm c25<|.gm c25<|.al rfl c25 rfl<|.mv rfl<|.aN<|.aN<|.al rfl (by decide) rfl<|.mv rfl<|.aN<|.aN<|.al rfl (by decide) rfl<|.mv rfl<|.aN<|.aN<|.al rfl (by decide) rfl<|.mv rfl<|.aN<|.aN<|.aN<|.al rfl (by decide) rfl<|.mv rfl<|.aN<|.aN<|.aN<|.al rfl (by decide) rfl<|.mv rfl<|.aN<|.aN<|.aN<|.aN<|.al rfl (by decide) rfl<|.mv rfl<|.aN<|.aN<|.aN<|.aN<|.al rfl (by decide) rfl<|.av rfl<|.nil) rfl ?_;cases h;refine .aF (fun _ _ hb=>hb) rfl (.t1 (.tmp rfl)) (.refl _) trivial trivial
   ·replace h:=ae c24 h;refine .ak (.mv rfl<|.cm rfl rfl rfl<|.mv rfl<|.gy c22<|.mv rfl<|.gy c22<|.cm rfl rfl rfl<|.an rfl c22 rfl<|.mv rfl<|.gy c23<|.mv rfl<|.gy c23<|.cm rfl rfl rfl<|.an rfl c23 rfl<|.mv rfl<|.gm c24<|.gm c24<|.al rfl c24 rfl<|.mv rfl<|.aN<|.aN<|.al rfl (by decide) rfl<|.mv rfl<|.aN<|.aN<|.al rfl (by decide) rfl<|.mv rfl<|.aN<|.aN<|.al rfl (by decide) rfl<|.mv rfl<|.aN<|.aN<|.al rfl (by decide) rfl<|.mv rfl<|.aN<|.aN<|.aN<|.al rfl (by decide) rfl<|.mv rfl<|.aN<|.aN<|.aN<|.al rfl (by decide) rfl<|.mv rfl<|.aN<|.aN<|.aN<|.aN<|.al rfl (by decide) rfl<|.mv rfl<|.aN<|.aN<|.aN<|.aN<|.al rfl (by decide) rfl<|.av rfl<|.nil) rfl ?_;cases h;refine .aF (fun _ _ hb=>hb) rfl (.t1 (.tmp rfl)) (.refl _) trivial trivial
  ·replace h:=ae c23 h;refine .ak (.mv rfl<|.cm rfl rfl rfl<|.mv rfl<|.gy c22<|.mv rfl<|.gy c22<|.cm rfl rfl rfl<|.an rfl c22 rfl<|.mv rfl<|.gm c23<|.gm c23<|.al rfl c23 rfl<|.mv rfl<|.aN<|.aN<|.al rfl (by decide) rfl<|.mv rfl<|.aN<|.aN<|.al rfl (by decide) rfl<|.mv rfl<|.aN<|.aN<|.al rfl (by decide) rfl<|.mv rfl<|.aN<|.aN<|.al rfl (by decide) rfl<|.mv rfl<|.aN<|.aN<|.al rfl (by decide) rfl<|.mv rfl<|.aN<|.aN<|.aN<|.al rfl (by decide) rfl<|.mv rfl<|.aN<|.aN<|.aN<|.al rfl (by decide) rfl<|.mv rfl<|.aN<|.aN<|.aN<|.aN<|.al rfl (by decide) rfl<|.mv rfl<|.aN<|.aN<|.aN<|.aN<|.al rfl (by decide) rfl<|.av rfl<|.nil) rfl ?_;cases h;refine .aF (fun _ _ hb=>hb) rfl (.t1 (.tmp rfl)) (.refl _) trivial trivial
 ·replace h:=ae c22 h;refine .ak (.mv rfl<|.cm rfl rfl rfl<|.mv rfl<|.gm c22<|.gm c22<|.al rfl c22 rfl<|.mv rfl<|.aN<|.aN<|.al rfl (by decide) rfl<|.mv rfl<|.aN<|.aN<|.al rfl (by decide) rfl<|.mv rfl<|.aN<|.aN<|.al rfl (by decide) rfl<|.mv rfl<|.aN<|.aN<|.al rfl (by decide) rfl<|.mv rfl<|.aN<|.aN<|.al rfl (by decide) rfl<|.mv rfl<|.aN<|.aN<|.al rfl (by decide) rfl<|.mv rfl<|.aN<|.aN<|.aN<|.al rfl (by decide) rfl<|.mv rfl<|.aN<|.aN<|.aN<|.al rfl (by decide) rfl<|.mv rfl<|.aN<|.aN<|.aN<|.aN<|.al rfl (by decide) rfl<|.mv rfl<|.aN<|.aN<|.aN<|.aN<|.al rfl (by decide) rfl<|.av rfl<|.nil) rfl ?_;cases h;refine .aF (fun _ _ hb=>hb) rfl (.t1 (.tmp rfl)) (.refl _) trivial trivial
end
end Go.Am
namespace Go.Am
open Go.RowKit
def D.mr(s k:Nat):D where
 p:=fun ε _ _ v=>v.oneCell'=true/\∃vs:Array Value,ε s=.agg vs/\vs[k]?=some v
 nm:=[s]
 sh:=.one
 mono:=fun h he _=>by rw[he _ (by simp)];exact h
 iD:=fun h=>h.1
def D.mc(s k off:Nat):D where
 p:=fun ε _ _ v=>∃(vs:Array Value) (u:Value),ε s=.agg vs/\vs[k]?=some u/\v=.pointer (some ⟨iv u,off,none⟩)
 nm:=[s]
 sh:=.one
 mono:=fun h he _=>by rw[he _ (by simp)];exact h
 iD:=fun⟨_,_,_,_,e⟩=>by subst e;rfl
def Hp.store{α:Type}(e:aK α)(te:TypeId)(M:List (List α)):Hp where
 p:=fun ε w S b F=>∃(vs:Array Value) (G:Nat->cl),b=.agg vs/\vs.size=M.length/\
  (∀k xs v,M[k]?=some xs->vs[k]?=some v->(bm e te xs).p ε w S v (G k))/\
  (∀k k',k<M.length->k'<M.length->k≠k'->∀i,G k i->¬G k' i)/\(∀i,F i↔∃k,k<M.length/\G k i)
 nm:=[]
 mono:=fun⟨vs,G,h1,h2,h3,h4,h5⟩ he hS hF=>⟨vs,G,h1,h2,fun k xs v hx hv=>(bm e te xs).mono (h3 k xs v hx hv) (fun r hr=>by cases hr) hS (fun i hi=>hF i ((h5 i).2 ⟨k,(List.getElem?_eq_some_iff.1 hx).1,hi⟩)),h4,h5⟩
def jk(m:Nat)(ty:TypeId)(l:List D)(ε:Env)(w:World)(S:cl)(b:Value)(F:cl):Prop:=
 (l=[]/\b=.slice none 0 0/\F=noBlocks)\/
  ∃(g n cap:Nat) (cs rest:List Value),b=.slice (some ⟨g,0,none⟩) n cap/\F=only g/\w.heap[g]?=some (.cells (cs++rest).toArray ty (0,0))/\(∀u∈cs,u.oneCell'=true)/\(cs++rest).length=cap*m/\cap<=maxLen/\l.length=n*m/\bX ε w S l cs
theorem lC{m:Nat}{ty:TypeId}{l:List D}{ε ε':Env}{w w':World}{S S':cl}{b:Value}{F:cl}(h:jk m ty l ε w S b F)(he:∀r∈bF l,ε' r=ε r)(hS:∀k,S k->k<w.heap.size->S' k/\w'.heap[k]?=w.heap[k]?)(hF:∀k,F k->w'.heap[k]?=w.heap[k]?):jk m ty l ε' w' S' b F:=by
 rcases h with h|⟨g,n,cap,cs,rest,h1,h2,h3,h4,h5,h8,h6,h7⟩
 ·exact .inl h
 ·exact .inr ⟨g,n,cap,cs,rest,h1,h2,(hF g (by rw[h2];rfl)).trans h3,h4,h5,h8,h6,bN hS h7 he⟩
def ca(s n:Nat):List D:=(List.range n).map (D.mr s)
theorem n7{s n r:Nat}(h:r∈bF (ca s n)):r=s:=by
 obtain⟨d,hd,hr⟩:=bM.1 h;obtain⟨k,_,rfl⟩:=List.mem_map.1 hd;simpa [D.mr]using hr
theorem kn{α:Type}(e:aK α)(X:List (List α)):bF (X.map (br e))=[]:=by
 induction X with
 |nil=>rfl
 |cons x X ih=>exact ih
def Hp.bQ{α:Type}(e:aK α)(te:TypeId)(s:Nat)(X:List (List α)):Hp where
 p:=fun ε w S b F=>∃vs:Array Value,ε s=.agg vs/\jk 1 te (ca s vs.size++X.map (br e)) ε w S b F
 nm:=[s]
 mono:=fun⟨vs,h1,h2⟩ he hS hF=>⟨vs,by rw[he _ (by simp)];exact h1,lC h2 (fun r hr=>by
  rcases bM.1 hr with⟨d,hd,hr'⟩;rcases List.mem_append.1 hd with hd|hd
  ·exact he _ (by rw[n7 (bM.2 ⟨d,hd,hr'⟩)];simp)
  ·have:=bM.2 ⟨d,hd,hr'⟩;rw[kn]at this;cases this) hS hF⟩
theorem cf.oZ{c:Ctx}{T:Nat->Option D}{H:Nat->Option Hp}{a:Act}{w:World}{ε ε':Env}{φ φ':Nat->cl}(h:cf c T H a w ε φ){L:List (Nat×Hp)}
  (hε:∀q,H q≠none->ε' q=ε q)
  (hφ:∀q,ai L q=none->φ' q=φ q)
  (hF:∀q k,ai L q≠none->φ' q k->∃q',H q'≠none/\ai L q'≠none/\φ q' k)
  (hdj:∀q q',ai L q≠none->ai L q'≠none->q≠q'->∀k,φ' q k->¬φ' q' k)
  (hp:∀q x,ai L q=some x->x.p ε' w (ak c (bp H L) φ') (ε' q) (φ' q))
  (hn:∀q x,ai L q=some x->∀q'∈x.nm,H q'≠none\/ai L q'≠none):
  cf c T (bp H L) a w ε' φ'/\(∀k,ak c H φ k->ak c (bp H L) φ' k):=by
 have hU:∀r,bp H L r≠none↔(ai L r≠none\/H r≠none):=by
  intro r;simp only[bp];cases ai L r<;>simp
 have hreg:∀k,ak c H φ k->ak c (bp H L) φ' k:=by
  intro k hk;refine⟨hk.1,fun r hr hf=>?_⟩;by_cases hL:ai L r=none
  ·rw[hφ r hL]at hf;exact hk.2 r (((hU r).1 hr).resolve_left (fun h=>h hL)) hf
  ·obtain⟨q',h1,_,h3⟩:=hF r k hL hf;exact hk.2 q' h1 h3
 have hS:∀k,ak c H φ k->k<w.heap.size->ak c (bp H L) φ' k/\w.heap[k]?=w.heap[k]?:=fun k hk _=>⟨hreg k hk,rfl⟩;refine⟨?_,hreg⟩
 constructor
 ·exact fun t d ht=>d.mono (h.t t d ht) (fun r hr=>hε r (h.tn t d ht r hr)) hS
 ·exact fun t d ht r hr=>(hU r).2 (.inr (h.tn t d ht r hr))
 ·intro r x hr;by_cases hL:ai L r=none
  ·have hr0:H r=some x:=by simpa only[bp,hL]using hr
   rw[hφ r hL,hε r (by rw[hr0];simp)];exact x.mono (h.h r x hr0) (fun r2 h2=>hε r2 (h.hn r x hr0 r2 h2)) hS (fun _ _=>rfl)
  ·cases hq:ai L r with
   |none=>exact absurd hq hL
   |some y=>
    have:y=x:=by simp only[bp,hq]at hr;injection hr
    subst this;exact hp r y hq
 ·intro r x hr r' hr';by_cases hL:ai L r=none
  ·have hr0:H r=some x:=by simpa only[bp,hL]using hr
   exact(hU r').2 (.inr (h.hn r x hr0 r' hr'))
  ·cases hq:ai L r with
   |none=>exact absurd hq hL
   |some y=>
    have:y=x:=by simp only[bp,hq]at hr;injection hr
    subst this;exact(hU r').2 ((hn r y hq r' hr').symm)
 ·intro r hr k hk;by_cases hL:ai L r=none
  ·rw[hφ r hL]at hk;exact h.lo r (((hU r).1 hr).resolve_left (fun h=>h hL)) k hk
  ·obtain⟨q',h1,_,h3⟩:=hF r k hL hk;exact h.lo q' h1 k h3
 ·intro r r' hr hr' hne k hk;have old:∀q,bp H L q≠none->ai L q=none->H q≠none:=fun q h1 h2=>((hU q).1 h1).resolve_left (fun h=>h h2);by_cases hL:ai L r=none
  ·have h0:=old r hr hL;rw[hφ r hL]at hk;by_cases hL':ai L r'=none
   ·rw[hφ r' hL'];exact h.dj r r' h0 (old r' hr' hL') hne k hk
   ·intro hk';obtain⟨q',h1,h2,h3⟩:=hF r' k hL' hk';exact h.dj r q' h0 h1 (fun e=>by subst e;exact h2 hL) k hk h3
  ·by_cases hL':ai L r'=none
   ·rw[hφ r' hL'];intro hk';obtain⟨q',h1,h2,h3⟩:=hF r k hL hk;exact h.dj q' r' h1 (old r' hr' hL') (fun e=>by subst e;exact h2 hL') k h3 hk'
   ·exact hdj r r' hL hL' hne k hk
 ·exact h.oL
 ·exact h.bs
 ·exact h.sz
 ·exact h.df
end Go.Am
namespace Go.Am
open Go.RowKit
theorem bz(s n:Nat):(ca s n).length=n:=by simp[ca]
theorem oO{m:Nat}{te:TypeId}{l:List D}{n:Nat}{ε:Env}{w:World}{S:cl}{b:Value}{F:cl}(hm:0<m)(hl:l.length=n*m)(h:jk m te l ε w S b F):∃A cap,b=.slice A n cap/\(0<n->A=some ⟨iv b,0,none⟩):=by
 rcases h with⟨h0,hb,_⟩|⟨g,n',cap,cs,rest,hb,_,_,_,_,_,hln,_⟩
 ·subst h0;have:n=0:=by rcases Nat.mul_eq_zero.1 (show n*m=0 from hl.symm)with h|h<;>omega
  subst this;exact⟨none,0,hb,fun h=>by omega⟩
 ·have:=Nat.eq_of_mul_eq_mul_right hm (hln.symm.trans hl);subst this;exact⟨some ⟨g,0,none⟩,cap,hb,fun _=>by rw[hb];rfl⟩
section
variable {P:Program} {os:List Oper} {c:Ctx} {T T':List (Nat×D)} {H H':List (Nat×Hp)} {sps:List Spec}
variable {ops:Array Oper} {dst:Option Nat} {ty:TypeId} {pos:String} {aft:Array Edge}
variable {α:Type} {e:aK α} {te tr:TypeId} {r s:Nat} {M X:List (List α)}
theorem jG{ε:Env}{w:World}{S:cl}{b:Value}{F F':cl}(h1:(Hp.bQ e te s X).p ε w S b F)(h2:(Hp.store e tr M).p ε w S (ε s) F'):jk 1 te (ca s M.length++X.map (br e)) ε w S b F:=by
 obtain⟨vs,e1,h1⟩:=h1;obtain⟨vs',G,e2,e3,_⟩:=h2;rw[e1]at e2;injection e2 with e2;subst e2
 rwa [e3]at h1
theorem tp{a:Act}{w:World}{ε:Env}{φ:Nat->cl}{t:Nat}{d:D}{K:Nat->Option Hp}(hs:cf c (aO T) K a w ε φ)(hp:d.p ε w (Am.ak c K φ) (a.tmps.getD t undef))(hn:∀r∈d.nm,K r≠none):cf c (aO ((t,d)::T)) K a w ε φ:=by
 refine{hs with t:=?_,tn:=?_}
 ·intro t' d' hd;simp only[aO]at hd
  cases hb:Nat.beq t' t with
  |true=>rw[hb]at hd;injection hd with hd;subst hd;rw[Nat.eq_of_beq_eq_true hb];exact hp
  |false=>rw[hb]at hd;exact hs.t t' d' hd
 ·intro t' d' hd r hr;simp only[aO]at hd
  cases hb:Nat.beq t' t with
  |true=>rw[hb]at hd;injection hd with hd;subst hd;exact hn r hr
  |false=>rw[hb]at hd;exact hs.tn t' d' hd r hr
theorem Ok.zT{x:Code}{Q:Exit->Act->World->Prop}(t:Nat)(ht:aO T t=some (.own r))(hh:ai H r=some (.bQ e te s X))(hk:ai H s=some (.store e tr M))
  (h:Ok P c ((t,.sl r (M.length+X.length))::T) H x Q):Ok P c T H x Q:=by
 intro a w ⟨ε,φ,hs⟩;have hv:a.tmps.getD t undef=ε r:=(hs.t t _ ht).1;have hrow:=jG (hs.h r _ hh) (hs.h s _ hk);obtain⟨A,cap,h1,h2⟩:=oO (n:=M.length+X.length) (by decide) (by simp[bz]) hrow;refine h a w ⟨ε,φ,tp hs ⟨hv,A,cap,by rw[hv,h1],h2⟩ (fun r' hr'=>?_)⟩;have:r'=r:=by simpa [D.sl]using hr'
 subst this;rw[hh];simp
def zY(xs:List (Operand×D))(r:Nat)(h:Hp)(s:Nat)(k:Hp)(out:D):Spec:={ins:=xs.flatMap fun x=>dM x.1 x.2,cO:=[(r,h),(s,k)],out:=out,c_:=[],news:=[]}
theorem aj.AT{o:Oper}{xs:List (Operand×D)}{h k:Hp}{d:D}(hg:o.guard=none)(he:∀x∈xs,ev T x.1=some x.2)(hh:ai H r=some h)(hk:ai H s=some k)(hnm:∀r'∈d.nm,r'=r\/r'=s)
  (hrun:∀(ε:Env) (w:World) (S:cl) (a:Act) (F F':cl),(∀x∈xs,x.2.p ε w S (a.eval x.1))->h.p ε w S (ε r) F->k.p ε w S (ε s) F'->∃v,(execOp a.eval o).run P w=.ok (.value v) w/\d.p ε w S v)
  (hr:aj P ops c os (bf T o.dst d) H sps T' H'):aj P ops c (o::os) T H (zY xs r h s k d::sps) T' H':=by
 refine .cons (sp:=zY xs r h s k d) ?_ (dQ he) ⟨hh,hk,trivial⟩ trivial hr;intro hd T0 H0 hi cO _ a w ⟨ε,φ,hs⟩ Q K hK;rw[if_pos (a_ hg _)];have hxs:=cz hi;obtain⟨v,hv,hp⟩:=hrun ε w (Am.ak c H0 φ) a (φ r) (φ s) (fun x hx=>(hs.ev (hxs x hx) (aA (he x hx)).2).1) (hs.h r h cO.1) (hs.h s k cO.2.1);simp only[Oper.wp,hv,Oper.upon];refine hK _ _ ⟨ε,φ,hs.put (d:=d) (cG hd) hp (fun r' hr'=>?_)⟩;rcases hnm r' hr' with rfl|rfl
 ·show H0 _≠none;rw[cO.1];simp
 ·show H0 _≠none;rw[cO.2.1];simp
theorem tQ{t:TypeId}{z m:Nat}{x:Operand}{d:D}(hd:(ca s M.length++X.map (br e))[z]?=some d)(hm:m=1)(ht:lay P t=some none)(h:ev T x=some (.ref r (z*m)))(hh:ai H r=some (.bQ e te s X))(hk:ai H s=some (.store e tr M))(hnm:∀r'∈d.nm,r'=r\/r'=s)
  (hr:aj P ops c os (bf T dst d) H sps T' H'):aj P ops c (⟨dst,.load t x,ty,pos,aft,none⟩::os) T H (zY [(x,.ref r (z*m))] r (.bQ e te s X) s (.store e tr M) d::sps) T' H':=
 .AT rfl (by simpa using h) hh hk hnm (fun ε w S a F F' ha h1 h2=>by
  subst hm;have hrow:=jG h1 h2;have hx:a.eval x=.pointer (some ⟨iv (ε r),z*1,none⟩):=ha (x,.ref r (z*1)) (by simp);rw[Nat.mul_one]at hx;rcases hrow with⟨h,_,_⟩|⟨g,n',cap,cs,rest,hb,_,hg,_,_,_,_,hc⟩
  ·rw[h]at hd;simp at hd
  ·obtain⟨v,hv,hp⟩:=gF hc hd;have hlt:=(List.getElem?_eq_some_iff.1 hv).1;refine⟨v,?_,hp⟩;rw[hb]at hx;simp only[execOp,hx,iv,Instr.loadAt,Instr.sureAddr,Sem.run_bind,Sem.run_pure,Result.andThen_ok,loadVar,(ij ht w).1,Bool.false_eq_true,if_false,run_load,fO hg,List.getElem?_append_left hlt,hv]) hr
theorem aj.jE{t:TypeId}{z:Int}{m:Nat}{x:Operand}(hz:z.toNat<M.length)(h:ev T x=some (.ref r (z.toNat*m)))(hh:ai H r=some (.bQ e te s X))(hk:ai H s=some (.store e tr M))(hm:m=1)(ht:lay P t=some none)
  (hr:aj P ops c os (bf T dst (.mr s z.toNat)) H sps T' H'):aj P ops c (⟨dst,.load t x,ty,pos,aft,none⟩::os) T H (zY [(x,.ref r (z.toNat*m))] r (.bQ e te s X) s (.store e tr M) (.mr s z.toNat)::sps) T' H':=
 tQ (by rw[List.getElem?_append_left (by rw[bz];exact hz)];simp[ca,hz]) hm ht h hh hk (fun r' hr'=>.inr (by simpa [D.mr]using hr')) hr
theorem aj.De{t:TypeId}{z:Int}{m:Nat}{x:Operand}{xs:List α}(hz:M.length<=z.toNat)(hX:X[z.toNat-M.length]?=some xs)(h:ev T x=some (.ref r (z.toNat*m)))(hh:ai H r=some (.bQ e te s X))(hk:ai H s=some (.store e tr M))(hm:m=1)(ht:lay P t=some none)
  (hr:aj P ops c os (bf T dst (br e xs)) H sps T' H'):aj P ops c (⟨dst,.load t x,ty,pos,aft,none⟩::os) T H (zY [(x,.ref r (z.toNat*m))] r (.bQ e te s X) s (.store e tr M) (br e xs)::sps) T' H':=
 tQ (by rw[List.getElem?_append_right (by rw[bz];exact hz),bz,List.getElem?_map,hX];rfl) hm ht h hh hk (fun r' hr'=>by cases hr') hr
theorem lS{k:Nat}{xs:List α}{ε:Env}{w:World}{S:cl}{F:cl}{v:Value}(hM:M[k]?=some xs)(h:(Hp.store e tr M).p ε w S (ε s) F)(hv:(D.mr s k).p ε w S v):∃G,(bm e tr xs).p ε w S v G:=by
 obtain⟨_,vs,e1,e2⟩:=hv;obtain⟨vs',G,e3,_,e4,_⟩:=h;rw[e1]at e3;injection e3 with e3;subst e3;exact⟨G k,e4 k xs v hM e2⟩
theorem aj.lM{t:TypeId}{x y:Operand}{k m:Nat}{kd:IntKind}{z:Int}{xs:List α}(hx:ev T x=some (.mr s k))(hy:ev T y=some (.int kd z))(hh:ai H s=some (.store e tr M))(hM:M[k]?=some xs)(ht:sle P t=some m)(h0:0<=z)(h1:z<xs.length)(hm:Nat.blt 0 e.n=true)
  (hr:aj P ops c os (bf T dst (.mc s k (z.toNat*m))) H sps T' H'):
  aj P ops c (⟨dst,.indexAddr t x y,ty,pos,aft,none⟩::os) T H (tS [(x,.mr s k),(y,.int kd z)] s (.store e tr M) (.mc s k (z.toNat*m))::sps) T' H':=
 .ask rfl (two hx hy) hh (fun r' hr'=>.inl (by simpa [D.mc]using hr')) (fun ε w S a F ha hp=>by
  have h2:=ha (x,.mr s k) (by simp);have h3:a.eval y=.int kd z:=ha (y,.int kd z) (by simp);obtain⟨G,hrow⟩:=lS hM hp h2;obtain⟨A,cap,hb,hA⟩:=rE (by simpa using hm) hrow;obtain⟨_,vs,e1,e2⟩:=h2;have hA':=hA (by omega);subst hA';dsimp only at hb e2;refine⟨.pointer (some ⟨iv (a.eval x),z.toNat*m,none⟩),?_,vs,_,e1,e2,rfl⟩;generalize iv (a.eval x)=g at hb;simp only[execOp,hb,h3,Sem.run_bind,f_ ht g 0 xs.length cap kd z h0 h1 w,Result.andThen_ok,Nat.zero_add]
  rfl) hr
theorem aj.gQ{t:TypeId}{x:Operand}{k m n:Nat}{z:Int}{xs:List α}{u:α}(h:ev T x=some (.mc s k (z.toNat*m)))(hh:ai H s=some (.store e tr M))(hM:M[k]?=some xs)(hu:xs[z.toNat]?=some u)(ht:lay P t=some (some n))(hm:m=e.n)(hn:n=e.n)
  (hr:aj P ops c os (bf T dst (.agg (e.c u))) H sps T' H'):aj P ops c (⟨dst,.load t x,ty,pos,aft,none⟩::os) T H (tS [(x,.mc s k (z.toNat*m))] s (.store e tr M) (.agg (e.c u))::sps) T' H':=
 .ask rfl (by simpa using h) hh (fun r' hr'=>by rw[show(D.agg (e.c u)).nm=bF (e.c u)from rfl,e.nm]at hr';cases hr') (fun ε w S a F ha hp=>by
  subst hm;subst hn;obtain⟨vs,v,e1,e2,e3⟩:=ha (x,.mc s k (z.toNat*e.n)) (by simp);obtain⟨vs',G,e4,_,e5,_⟩:=hp;rw[e1]at e4;injection e4 with e4;subst e4;have hrow:=e5 k xs v hM e2;dsimp only at e3;rcases hrow with⟨h,_,_⟩|⟨g,n',cap,cs,rest,hb,_,hg,h1,_,_,_,hc⟩
  ·have h0:=kP e hu;rw[h]at h0;have h1:(e.c u)=[]:=by rw[←h0];simp
   have h2:e.n=0:=by rw[←e.len u,h1];rfl
   refine⟨.agg #[],?_,[],rfl,(fun u hu=>by cases hu),by rw[h1];trivial⟩;simp only[execOp,e3,Instr.loadAt,Instr.sureAddr,Sem.run_bind,Sem.run_pure,Result.andThen_ok,loadVar,(dT ht w).1,(dT ht w).2,if_true,h2,loadCells,loadCellsFrom]
  ·have hlen:=aS hc;have hlt:=(List.getElem?_eq_some_iff.1 hu).1;have hle:=Nat.mul_le_mul_right e.n (Nat.succ_le_of_lt hlt);rw[cb]at hlen;rw[Nat.succ_mul]at hle;have hq:((cs.drop (z.toNat*e.n)).take e.n).length=e.n:=by simp;omega
   rw[hb]at e3;have hld:=run_loadCells_list (P:=P) w ⟨g,z.toNat*e.n,none⟩ ((cs.drop (z.toNat*e.n)).take e.n) (fun j v hv=>by
    have hj:j<e.n:=by have:=(List.getElem?_eq_some_iff.1 hv).1;omega
    rw[gA,fO hg];rw[List.getElem?_take_of_lt hj,List.getElem?_drop]at hv;rw[List.getElem?_append_left (List.getElem?_eq_some_iff.1 hv).1];exact hv)
   rw[hq]at hld;refine⟨.agg ((cs.drop (z.toNat*e.n)).take e.n).toArray,?_,(cs.drop (z.toNat*e.n)).take e.n,rfl,fun u hu=>h1 u (List.mem_of_mem_drop (List.mem_of_mem_take hu)),?_⟩
   ·simp only[execOp,e3,iv,Instr.loadAt,Instr.sureAddr,Sem.run_bind,Sem.run_pure,Result.andThen_ok,loadVar,(dT ht w).1,(dT ht w).2,if_true,hld]
   ·have:=dA (n:=e.n) (dK (n:=z.toNat*e.n) hc)
    rwa [kP e hu]at this) hr
theorem ze{te:TypeId}{w:World}{ε:Env}{S:cl}{b:Value}{F:cl}{xs:List α}{u:α}{j:Nat}{vs:List Value}(hp:(bm e te xs).p ε w S b F)(hj:j<xs.length)(hS:∀k,S k->¬F k)(hv1:∀v∈vs,v.oneCell'=true)(hvs:bX ε w S (e.c u) vs)(hn:0<e.n):
  ∃w',(storeCells (⟨iv b,j*e.n,none⟩:Addr) vs).run P w=.ok () w'/\w'.heap.size=w.heap.size/\w'.os=w.os/\w'.tape=w.tape/\w'.output=w.output/\(∀k,¬F k->w'.heap[k]?=w.heap[k]?)/\(bm e te (xs.set j u)).p ε w' S b F:=by
 have hvl:vs.length=e.n:=by rw[aS hvs,e.len]
 have hle:=Nat.mul_le_mul_right e.n (Nat.succ_le_of_lt hj);rw[Nat.succ_mul]at hle;rcases hp with⟨e0,_,_⟩|⟨g,n',cap,cs,rest,hb,eF,hg,h1,hcap,hmax,hln,hcs⟩
 ·have:=cb e xs;rw[e0]at this;have h0:xs.length*e.n=0:=this.symm;omega
 ·have hlen:=aS hcs;rw[cb]at hlen;have hst:=run_storeCells_at (P:=P) g (j*e.n) te vs 0 (cs++rest).toArray w hg (by simp;omega) hv1;simp only[Nat.add_zero,hvl]at hst;have hsplit:(cs++rest).take (j*e.n)++vs++(cs++rest).drop (j*e.n+e.n)=(cs.take (j*e.n)++vs++cs.drop (j*e.n+e.n))++rest:=by
   rw[List.take_append_of_le_length (by omega),List.drop_append_of_le_length (by omega)];simp[List.append_assoc]
  rw[hsplit]at hst;have hfar:∀k,¬F k->(w.setRow g ((cs.take (j*e.n)++vs++cs.drop (j*e.n+e.n))++rest).toArray).heap[k]?=w.heap[k]?:=fun k hk=>eP _ _ _ _ (fun e'=>hk (by rw[eF,e'];rfl));refine⟨w.setRow g ((cs.take (j*e.n)++vs++cs.drop (j*e.n+e.n))++rest).toArray,(by rw[hb];exact hst),by simp[World.setRow],rfl,rfl,rfl,hfar,.inr ⟨g,n',cap,cs.take (j*e.n)++vs++cs.drop (j*e.n+e.n),rest,hb,eF,setRow_heap w g (cs++rest).toArray _ te _ hg,?_,?_,hmax,?_,?_⟩⟩
  ·intro u hu;simp only[List.mem_append]at hu;rcases hu with(hu|hu)|hu
   ·exact h1 u (List.mem_of_mem_take hu)
   ·exact hv1 u hu
   ·exact h1 u (List.mem_of_mem_drop hu)
  ·rw[←hcap];simp;omega
  ·rw[cb,List.length_set,←hln,cb]
  ·rw[←tA e hj u];exact bN (fun k hk _=>⟨hk,hfar k (hS k hk)⟩) (bS (bS (dA _ hcs) hvs) (dK _ hcs)) (fun _ _=>rfl)
theorem aj.vT{t:TypeId}{x y:Operand}{k m n:Nat}{z:Int}{xs:List α}(u:α)(h:ev T x=some (.mc s k (z.toNat*m)))(hy:ev T y=some (.agg (e.c u)))(hh:ai H s=some (.store e tr M))(hM:M[k]?=some xs)(hz:z.toNat<xs.length)(ht:lay P t=some (some n))(hm:m=e.n)(hn:n=e.n)(hn0:Nat.blt 0 e.n=true)
  (hr:aj P ops c os (bf T dst .any) ((s,.store e tr (M.set k (xs.set z.toNat u)))::H) sps T' H'):
  aj P ops c (⟨dst,.store t x y,ty,pos,aft,none⟩::os) T H (ws x (.mc s k (z.toNat*m)) y (.agg (e.c u)) s (.store e tr M) (.store e tr (M.set k (xs.set z.toNat u)))::sps) T' H':=by
 subst hm;subst hn;refine .cons (sp:=ws x (.mc s k (z.toNat*e.n)) y (.agg (e.c u)) s (.store e tr M) (.store e tr (M.set k (xs.set z.toNat u)))) ?_ (aV.2 ⟨(aA h).1,(aA hy).1⟩) ⟨hh,trivial⟩ trivial hr;intro hdst T0 H0 hi cO _ a w ⟨ε,φ,hs⟩ Q K hK;rw[if_pos (a_ rfl _)];obtain⟨hi1,hi2⟩:=aV.1 hi;obtain⟨vs,v,e1,e2,hx⟩:=(hs.ev hi1 (aA h).2).1;obtain⟨⟨us,hus,hu1,hua⟩,_⟩:=hs.ev hi2 (aA hy).2;obtain⟨vs',G,e4,e5,e6,e7,e8⟩:=hs.h s _ cO.1;rw[e1]at e4;injection e4 with e4;subst e4;have hk:k<M.length:=(List.getElem?_eq_some_iff.1 hM).1;have hSF:∀i,Am.ak c H0 φ i->¬φ s i:=fun i hi=>hi.2 s (by simp[cO.1]);obtain⟨w',r1,r2,r3,r4,r5,r6,r7⟩:=ze (P:=P) (u:=u) (e6 k xs v hM e2) hz (fun i hi hg=>hSF i hi ((e8 i).2 ⟨k,hk,hg⟩)) hu1 hua (by simpa using hn0);have hrun:(execOp a.eval ⟨dst,.store t x y,ty,pos,aft,none⟩).run P w=.ok .skip w':=by
  have hsize:(a.eval y).cells.size=e.n:=by rw[hus];simp only[Value.cells];rw[List.size_toArray,aS hua,e.len]
  have hcl:(a.eval y).cells.toList=us:=by rw[hus];simp[Value.cells]
  simp only[execOp,Instr.storeAt,hx,Instr.sureAddr,Sem.run_bind,Sem.run_pure,Result.andThen_ok,storeVar,(dT ht w).2,hsize,ne_eq,not_true_eq_false,if_false,hcl,r1]
 simp only[Oper.wp,hrun,Oper.upon];have hS:=hs.pM (w':=w') (y:=.store e tr (M.set k (xs.set z.toNat u))) cO.1 r2 r3 r4 r5 (fun i hi=>r6 i (fun hg=>hi ((e8 i).2 ⟨k,hk,hg⟩)))
  ⟨vs,G,e1,by rw[e5,List.length_set],(fun k' xs' v' hx' hv'=>by
   by_cases hkk:k=k'
   ·subst hkk;rw[List.getElem?_set_self hk]at hx';injection hx' with hx';subst hx';rw[e2]at hv';injection hv' with hv';subst hv';exact r7
   ·rw[List.getElem?_set_ne hkk]at hx';have hk':=(List.getElem?_eq_some_iff.1 hx').1;exact(bm e tr xs').mono (e6 k' xs' v' hx' hv') (fun _ _=>rfl) (fun i hi _=>⟨hi,r6 i (fun hg=>hSF i hi ((e8 i).2 ⟨k,hk,hg⟩))⟩) (fun i hi=>r6 i (fun hg=>e7 k k' hk hk' hkk i hg hi))),by rw[List.length_set];exact e7,by rw[List.length_set];exact e8⟩ (fun r' hr'=>by cases hr')
 exact hK _ _ ⟨ε,φ,hS.put (d:=.any) (cG hdst) trivial (fun _ h=>by cases h)⟩
end
end Go.Am
namespace Go.Am
open Go.RowKit
def Hp.dh(m:Nat)(ty:TypeId)(l:List D):Hp where
 p:=jk m ty l
 nm:=bF l
 mono:=fun h he hS hF=>lC h he hS hF
def bV(vs:List Value):List D:=vs.map D.lit
theorem cN(vs:List Value):bF (bV vs)=[]:=by
 induction vs with
 |nil=>rfl
 |cons v vs ih=>exact ih
theorem iN{ε:Env}{w:World}{S:cl}:∀{vs cs:List Value},bX ε w S (bV vs) cs↔cs=vs
 |[],[]=>by simp[bV,bX]
 |[],_::_=>by simp[bV,bX]
 |_::_,[]=>by simp[bV,bX]
 |v::vs,u::us=>by
  have:=@iN ε w S vs us;simp only[bV,List.map_cons,bX]at this|-;rw[this];simp[D.lit]
theorem qq{s n k:Nat}(h:k<n):(ca s n)[k]?=some (D.mr s k):=by simp[ca,h]
theorem jF{ε:Env}{w:World}{S:cl}{s:Nat}{vs:Array Value}(h:ε s=.agg vs){cs:List Value}(hc:bX ε w S (ca s vs.size) cs):cs=vs.toList:=by
 have hl:=aS hc;rw[bz]at hl;apply List.ext_getElem
 ·simp[hl]
 ·intro k h1 h2;obtain⟨v,hv,hp⟩:=gF hc (qq (s:=s) (show k<vs.size by omega));obtain⟨_,vs',e1,e2⟩:=hp;rw[h]at e1;injection e1 with e1;subst e1;rw[List.getElem?_eq_getElem h1]at hv;injection hv with hv;rw[hv];have:=Array.getElem?_eq_some_iff.1 e2;obtain⟨h3,h4⟩:=this;simp[←h4]
theorem mZ{ε:Env}{w:World}{S:cl}{s:Nat}{vs:Array Value}(h:ε s=.agg vs)(h1:∀v∈vs.toList,v.oneCell'=true):bX ε w S (ca s vs.size) vs.toList:=by
 have:∀(n:Nat) (us:List Value),(∀(k:Nat) (v:Value),us[k]?=some v->v.oneCell'=true/\vs[k]?=some v)->us.length=n->bX ε w S (ca s n) us:=by
  intro n
  induction n with
  |zero=>intro us _ hl;have:=List.eq_nil_of_length_eq_zero hl;subst this;exact trivial
  |succ n ih=>
   intro us hk hl;have e:us=us.take n++[us[n]'(by omega)]:=by
    conv=>lhs;rw[←List.take_append_drop n us]
    rw[List.drop_eq_getElem_cons (by omega),List.drop_eq_nil_of_le (by omega)]
   have e2:ca s (n+1)=ca s n++[D.mr s n]:=by simp[ca,List.range_succ]
   rw[e,e2];refine bS (ih _ (fun k v hv=>?_) (by simp;omega)) ⟨?_,trivial⟩
   ·have hlt:=(List.getElem?_eq_some_iff.1 hv).1;rw[List.length_take]at hlt;rw[List.getElem?_take_of_lt (by omega)]at hv;exact hk k v hv
   ·have:=hk n _ (List.getElem?_eq_getElem (by omega));exact⟨this.1,vs,h,this.2⟩
 refine this _ _ (fun k v hv=>⟨h1 v (List.mem_of_getElem? hv),by simpa using hv⟩) (by simp)
theorem qz{ε:Env}{w:World}{S:cl}{l m:List D}{cs:List Value}(h:bX ε w S (l++m) cs):∃us vs,cs=us++vs/\bX ε w S l us/\bX ε w S m vs:=by
 refine⟨cs.take l.length,cs.drop l.length,(List.take_append_drop _ _).symm,?_,?_⟩
 ·have:=dA l.length h
  rwa [List.take_left]at this
 ·have:=dK l.length h
  rwa [List.drop_left]at this
section
variable {P:Program} {os:List Oper} {c:Ctx} {T T':List (Nat×D)} {H H':List (Nat×Hp)} {sps:List Spec}
variable {ops:Array Oper} {dst:Option Nat} {ty:TypeId} {pos:String} {aft:Array Edge}
variable {α:Type} {e:aK α} {te tr:TypeId} {r s:Nat} {M X:List (List α)}
theorem pO{ε:Env}{w:World}{S:cl}{b:Value}{F:cl}{vs:Array Value}(hv:ε s=.agg vs)(h:(Hp.bQ e te s X).p ε w S b F):jk 1 te (bV vs.toList++X.map (br e)) ε w S b F:=by
 obtain⟨vs',e1,h⟩:=h;rw[hv]at e1;injection e1 with e1;subst e1;rcases h with⟨h0,h1,h2⟩|⟨g,n,cap,cs,rest,h1,h2,h3,h4,h5,h8,h6,h7⟩
 ·rcases List.append_eq_nil_iff.1 h0 with⟨h3,h4⟩;have:vs.size=0:=by have:=congrArg List.length h3;rwa [bz]at this
  refine .inl ⟨?_,h1,h2⟩;have:vs.toList=[]:=List.eq_nil_of_length_eq_zero (by simpa using this);rw[this,h4];rfl
 ·obtain⟨us,xs,rfl,hu,hx⟩:=qz h7;have:=jF hv hu;subst this;refine .inr ⟨g,n,cap,_,rest,h1,h2,h3,h4,h5,h8,?_,bS (iN.2 rfl) hx⟩;rw[←h6];simp[bV,bz]
theorem sU{ε:Env}{w:World}{S:cl}{b:Value}{F:cl}{vs:Array Value}(hv:ε s=.agg vs)(h:jk 1 te (bV vs.toList++X.map (br e)) ε w S b F):(Hp.bQ e te s X).p ε w S b F:=by
 refine⟨vs,hv,?_⟩;rcases h with⟨h0,h1,h2⟩|⟨g,n,cap,cs,rest,h1,h2,h3,h4,h5,h8,h6,h7⟩
 ·rcases List.append_eq_nil_iff.1 h0 with⟨h3,h4⟩;have:vs.size=0:=by have:=congrArg List.length h3;simpa [bV]using this
  refine .inl ⟨?_,h1,h2⟩;rw[this,h4];rfl
 ·obtain⟨us,xs,rfl,hu,hx⟩:=qz h7;have:=iN.1 hu;subst this;refine .inr ⟨g,n,cap,_,rest,h1,h2,h3,h4,h5,h8,?_,bS (mZ hv (fun v hv=>h4 v (by simp[hv]))) hx⟩;rw[←h6];simp[bV,bz]
theorem vV{K:List Nat}{q:Nat}:ai (K.map fun k=>(k,Hp.dead)) q=if q∈K then some .dead else none:=by
 induction K with
 |nil=>rfl
 |cons k K ih=>
  simp only[List.map_cons,ai]
  cases hb:Nat.beq q k with
  |true=>rw[Nat.eq_of_beq_eq_true hb];simp
  |false=>
   have hne:q≠k:=fun e=>by subst e;simp at hb
   dsimp only;rw[ih];simp[hne]
theorem cf.rI{T0:Nat->Option D}{H0:Nat->Option Hp}{a:Act}{w:World}{ε:Env}{φ:Nat->cl}(hs:cf c T0 H0 a w ε φ)(K:List Nat)(hK:∀q∈K,H0 q≠none){s2:Nat}(hs2:H0 s2=none)(hr:H0 r≠none)(hrK:r∉K)
  (vs:Array Value)(G:Nat->cl)(hsz:vs.size=M.length)
  (hrows:∀k xs v,M[k]?=some xs->vs[k]?=some v->(bm e tr xs).p ε w (Am.ak c H0 φ) v (G k))
  (hdj:∀k k',k<M.length->k'<M.length->k≠k'->∀i,G k i->¬G k' i)
  (hG:∀k,k<M.length->∀i,G k i->∃q∈K,φ q i)
  (c_:jk 1 te (bV vs.toList++X.map (br e)) ε w (Am.ak c H0 φ) (ε r) (φ r)):
  Sat c T0 (bp H0 ((r,.bQ e te s2 X)::(s2,.store e tr M)::K.map fun k=>(k,Hp.dead))) a w:=by
 have hr2:r≠s2:=fun e=>hr (e▸hs2);have hK2:∀q∈K,q≠s2:=fun q hq e=>hK q hq (e▸hs2);have hL:∀q,ai ((r,Hp.bQ e te s2 X)::(s2,Hp.store e tr M)::K.map fun k=>(k,Hp.dead)) q=if q=r then some (Hp.bQ e te s2 X)else if q=s2 then some (Hp.store e tr M)else if q∈K then some .dead else none:=by
  intro q;simp only[ai]
  cases h1:Nat.beq q r with
  |true=>rw[if_pos (Nat.eq_of_beq_eq_true h1)]
  |false=>
   rw[if_neg (fun e=>by subst e;simp at h1)]
   cases h2:Nat.beq q s2 with
   |true=>rw[if_pos (Nat.eq_of_beq_eq_true h2)]
   |false=>rw[if_neg (fun e=>by subst e;simp at h2)];exact vV
 let φ':Nat->cl:=fun q=>if q=s2 then(fun i=>∃k,k<M.length/\G k i)else if q∈K then noBlocks else φ q
 have f1:φ' s2=fun i=>∃k,k<M.length/\G k i:=by simp[φ']
 have f2:∀q∈K,φ' q=noBlocks:=fun q hq=>by simp[φ',hK2 q hq,hq]
 have f3:∀q,q≠s2->q∉K->φ' q=φ q:=fun q h1 h2=>by simp[φ',h1,h2]
 refine⟨cW ε s2 (.agg vs),φ',(hs.oZ (fun q hq=>aL _ _ (show q≠s2 from fun e=>hq (e▸hs2))) (fun q hq=>?_) (fun q k hq hk=>?_) (fun q q' hq hq' hne k hk=>?_) (fun q x hq=>?_) (fun q x hq q' hq'=>?_)).1⟩
 ·rw[hL]at hq;refine f3 q (fun e=>?_) (fun h=>?_)
  ·subst e;simp[Ne.symm hr2]at hq
  ·by_cases h1:q=r
   ·subst h1;exact hrK h
   ·simp[h1,hK2 q h,h]at hq
 ·by_cases h2:q=s2
  ·subst h2;rw[f1]at hk;obtain⟨j,hj,hg⟩:=hk;obtain⟨q',h3,h4⟩:=hG j hj k hg;refine⟨q',hK q' h3,?_,h4⟩;rw[hL,if_neg (show q'≠r from fun e=>hrK (e▸h3)),if_neg (hK2 q' h3),if_pos h3];simp
  ·by_cases h3:q∈K
   ·rw[f2 q h3]at hk;exact hk.elim
   ·rw[f3 q h2 h3]at hk;have:q=r:=by
     rw[hL]at hq;by_cases h1:q=r
     ·exact h1
     ·simp[h1,h2,h3]at hq
    subst this;exact⟨q,hr,by rw[hL,if_pos rfl];simp,hk⟩
 ·have cls:∀q,ai ((r,Hp.bQ e te s2 X)::(s2,Hp.store e tr M)::K.map fun k=>(k,Hp.dead)) q≠none->q=r\/q=s2\/q∈K:=by
   intro q h;rw[hL]at h;by_cases h1:q=r
   ·exact .inl h1
   ·by_cases h2:q=s2
    ·exact .inr (.inl h2)
    ·by_cases h3:q∈K
     ·exact .inr (.inr h3)
     ·simp[h1,h2,h3]at h
  have notG:∀j,j<M.length->∀i,G j i->¬φ r i:=fun j hj i hg hf=>by
   obtain⟨q',h3,h4⟩:=hG j hj i hg;exact hs.dj q' r (hK q' h3) hr (fun e=>hrK (e▸h3)) i h4 hf
  rcases cls q hq with rfl|rfl|h
  ·rw[f3 q hr2 hrK]at hk;rcases cls q' hq' with rfl|rfl|h'
   ·exact absurd rfl hne
   ·rw[f1];rintro⟨j,hj,hg⟩;exact notG j hj k hg hk
   ·rw[f2 q' h'];exact fun h=>h
  ·rw[f1]at hk;obtain⟨j,hj,hg⟩:=hk;rcases cls q' hq' with rfl|rfl|h'
   ·rw[f3 q' hr2 hrK];exact notG j hj k hg
   ·exact absurd rfl hne
   ·rw[f2 q' h'];exact fun h=>h
  ·rw[f2 q h]at hk;exact hk.elim
 ·have hS:∀k,Am.ak c H0 φ k->Am.ak c (bp H0 ((r,Hp.bQ e te s2 X)::(s2,Hp.store e tr M)::K.map fun k=>(k,Hp.dead))) φ' k:=by
   intro k hk;refine⟨hk.1,fun q' hq' hf=>?_⟩;by_cases h2:q'=s2
   ·subst h2;rw[f1]at hf;obtain⟨j,hj,hg⟩:=hf;obtain⟨q2,h3,h4⟩:=hG j hj k hg;exact hk.2 q2 (hK q2 h3) h4
   ·by_cases h3:q'∈K
    ·rw[f2 q' h3]at hf;exact hf
    ·rw[f3 q' h2 h3]at hf;refine hk.2 q' (fun h0=>hq' ?_) hf;have h1:q'≠r:=fun e=>hr (e▸h0);simp only[bp];rw[hL,if_neg h1,if_neg h2,if_neg h3];exact h0
  have hS':∀k,Am.ak c H0 φ k->k<w.heap.size->Am.ak c (bp H0 ((r,Hp.bQ e te s2 X)::(s2,Hp.store e tr M)::K.map fun k=>(k,Hp.dead))) φ' k/\w.heap[k]?=w.heap[k]?:=fun k hk _=>⟨hS k hk,rfl⟩;rw[hL]at hq;by_cases h1:q=r
  ·subst h1;rw[if_pos rfl]at hq;injection hq with hq;subst hq;rw[aL _ _ hr2,f3 q hr2 hrK];refine sU (aB _ _ _) (lC c_ (fun q' hq'=>?_) hS' (fun _ _=>rfl));rw[cU (cN _) (kn e X)]at hq';cases hq'
  ·rw[if_neg h1]at hq;by_cases h2:q=s2
   ·subst h2;rw[if_pos rfl]at hq;injection hq with hq;subst hq;rw[f1,aB];exact⟨vs,G,rfl,hsz,fun k xs v hx hv=>(bm e tr xs).mono (hrows k xs v hx hv) (fun q' hq'=>by cases hq') hS' (fun _ _=>rfl),hdj,fun i=>Iff.rfl⟩
   ·rw[if_neg h2]at hq;by_cases h3:q∈K
    ·rw[if_pos h3]at hq;injection hq with hq;subst hq;rw[f2 q h3];rfl
    ·rw[if_neg h3]at hq;cases hq
 ·rw[hL]at hq;by_cases h1:q=r
  ·rw[if_pos h1]at hq;injection hq with hq;subst hq;have:q'=s2:=by simpa [Hp.bQ]using hq'
   subst this
   right
   rw[hL,if_neg (Ne.symm hr2),if_pos rfl];simp
  ·rw[if_neg h1]at hq;by_cases h2:q=s2
   ·rw[if_pos h2]at hq;injection hq with hq;subst hq;cases hq'
   ·rw[if_neg h2]at hq;by_cases h3:q∈K
    ·rw[if_pos h3]at hq;injection hq with hq;subst hq;cases hq'
    ·rw[if_neg h3]at hq;cases hq
theorem aj.Df{t te:TypeId}{r:Nat}{parts:List (Nat×Operand)}{m bt n:Nat}{z:List D}(l:List D)(q:List (Nat×Operand×D×List D))(hm:mj P t=some (te,m,bt,z))(hs:Nat.ble (n*m) 16777216=true)(hn0:Nat.blt 0 n=true)(hq:i4 (yU m 0 n) (n*m) parts q)(he:∀x∈qs q,ev T x.1=some x.2)
  (hle:over (List.replicate n z).flatten q=l)(hln:l.length=n*m)(hnq:∀r'∈bF l,∃x∈qs q,r'∈x.2.nm)(hf:ai H r=none)
  (hr:aj P ops c os ((r,.own r)::T) ((r,Hp.dh m te l)::H) sps T' H'):
  aj P ops c (⟨some r,.buildSlice t n parts.toArray,ty,pos,aft,none⟩::os) T H (rws (qs q) r (Hp.dh m te l)::sps) T' H':=by
 refine .cons (sp:=rws (qs q) r (Hp.dh m te l)) ?_ (dQ he) trivial ⟨hf,trivial⟩ hr;intro hd T0 H0 hi _ hnew a w ⟨ε,φ,hs'⟩ Q K hK;rw[if_pos (a_ rfl _)];have hx:∀x∈qs q,eV T0 (dM x.1 x.2):=cz hi;obtain⟨i,v,hu,hinf,hzv,hsz,_,ez,hv1,hvs,hm0⟩:=fP hm;obtain⟨hpl,hg⟩:=jC hq;have hn1:0<n:=by simpa using hn0
 have hcs:=eX hvs hm0 n;have hz0:bX ε w (ak c H0 φ) (List.replicate n z).flatten (madeCells v.cells (n*m)).toList:=by rw[hcs,ez];exact fC (iz _ _ _ _) _
 have hzl:(List.replicate n z).flatten.length=n*m:=by
  have h1:v.cells.toList.length=m:=by rw[Array.length_toList,hvs]
  rw[fZ,ez,List.length_map,h1]
 obtain⟨cs',hfl,hA,hO⟩:=lJ (a:=a) (place:=fun i=>some (i*m,m)) hpl (fun k u x hu' hx=>by
  have:=hg k u x hu' hx;have h2:=rT m 0 n u.1 _ this.2.1;simp only[Prod.mk.injEq,Nat.zero_add]at h2;exact⟨this.1,by rw[h2.1,h2.2],this.2.2.1,by rw[hzl];exact this.2.2.2⟩) hz0 (by
   intro u hu';rw[hcs]at hu';simp only[List.mem_flatten,List.mem_replicate]at hu';obtain⟨l',⟨_,rfl⟩,hu'⟩:=hu';exact hv1 u hu') (fun x hxm=>(hs'.ev (hx (x.2.1,x.2.2.1) (List.mem_map.2 ⟨x,hxm,rfl⟩)) (aA (he (x.2.1,x.2.2.1) (List.mem_map.2 ⟨x,hxm,rfl⟩))).2).1)
 have live:∀r'∈bF l,H0 r'≠none:=fun r' hr'=>by
  obtain⟨x,hxm,hr2⟩:=hnq r' hr';exact(hs'.ev (hx x hxm) (aA (he x hxm)).2).2 r' hr2
 have hlim:¬(n*m>2^24):=by have:=Nat.le_of_ble_eq_true hs;omega
 have hf':Instr.fill (fun i=>some (i*m,m)) (madeCells v.cells (n*m)) (parts.map fun x=>(x.1,a.eval x.2))=some cs':=hfl;have h0:¬(n*m=0):=by
  intro h;rcases Nat.mul_eq_zero.1 h with h|h<;>omega
 have hrun:(execOp a.eval ⟨some r,.buildSlice t n parts.toArray,ty,pos,aft,none⟩).run P w=.ok (.value (.slice (some ⟨w.heap.size,0,none⟩) n n)) (w.alloc (.cells cs' te)):=by
  simp only[execOp,Instr.buildSlice,run_underlying hu,Sem.run_bind,Result.andThen_ok,sizeOf,typeInfo,run_program,hinf,Sem.run_pure,hsz];simp[hlim,h0,zeroValue,typeInfo,hinf,hzv,newRow];rw[show(Array.map (fun x=>v.cells[x%v.cells.size]!) (Array.range (n*m)))=madeCells v.cells (n*m)from rfl,hf'];simp
 simp only[Oper.wp,hrun,Oper.upon];rw[hle]at hA;have hlen:=aS hA;have hmx:n<=maxLen:=by
  have h1:=Nat.le_of_ble_eq_true hs;have h2:n*1<=n*m:=Nat.mul_le_mul_left _ hm0;unfold maxLen;omega
 have hA':bX (cW ε r (.slice (some ⟨w.heap.size,0,none⟩) n n)) (w.alloc (.cells cs' te)) (Am.ak c (bp H0 [(r,Hp.dh m te l)]) (cW φ r (only w.heap.size))) (l) cs'.toList:=by
  refine bN (fun k hk hlt=>⟨⟨hk.1,fun r' hr'=>?_⟩,Below.heap_alloc _ _ _ hlt⟩) hA (fun r' hr'=>aL _ _ (fun e'=>live r' hr' (e'▸hnew.1)));rw[bG]at hr';by_cases e':r'=r
  ·subst e';rw[aB];intro hf';simp only[only]at hf';omega
  ·rw[aL _ _ e']at hr'|-;exact hk.2 r' hr'
 have hN:=hs'.ky (x:=Hp.dh m te l) (b:=.slice (some ⟨w.heap.size,0,none⟩) n n) (F:=only w.heap.size) (w':=w.alloc (.cells cs' te)) (r:=r) hnew.1 ((Below.refl _ _).alloc (Nat.le_refl _) _)
  (fun k hk=>by simp only[only]at hk;subst hk;simp)
  (.inr ⟨w.heap.size,n,n,cs'.toList,[],rfl,rfl,by rw[gK,List.append_nil],hO,by rw[List.append_nil,hlen,hln],hmx,hln,hA'⟩) live
 exact hK _ _ ⟨_,_,hN.put (dst:=some r) (d:=.own r) (cG hd) ⟨(aB _ _ _).symm,rfl⟩ (by simp[D.own,bG,aB])⟩
end
end Go.Am
namespace Go.Am
open Go.RowKit
theorem nL{H:Nat->Option Hp}{r:Nat}{y:Hp}{L:List (Nat×Hp)}(h:ai L r≠none):bp (bp H [(r,y)]) L=bp H L:=by
 funext q
 simp only[bp]
 cases hq:ai L q with
 |some _=>rfl
 |none=>
  simp only[ai]
  cases hb:Nat.beq q r with
  |true=>rw[Nat.eq_of_beq_eq_true hb]at hq;exact absurd hq h
  |false=>rfl
theorem ke{α:Type}(e:aK α):∀X:List (List α),flat (aK.slice e) X=X.map (br e)
 |[]=>rfl
 |x::X=>by
  have ih:=ke e X;show(x::X).flatMap (fun l=>[br e l])=_;rw[List.flatMap_cons,List.map_cons];show [br e x]++flat (aK.slice e) X=_;rw[ih];rfl
theorem ka(vs:List Value):(bV vs).length=vs.length:=by simp[bV]
section
variable {P:Program} {os:List Oper} {c:Ctx} {T T':List (Nat×D)} {H H':List (Nat×Hp)} {sps:List Spec}
variable {ops:Array Oper} {dst:Option Nat} {ty:TypeId} {pos:String} {aft:Array Edge}
variable {α:Type} {e:aK α} {te tr:TypeId} {r s:Nat} {M X:List (List α)}
theorem Ok.BH{α:Type}{x:Code}{Q:Exit->Act->World->Prop}(e:aK α)(t r s:Nat)(te tr:TypeId)(ht:aO T t=some .nil)(hf:ai H r=none)(hf2:ai H s=none)(hne:Nat.beq r s=false)
  (h:Ok P c ((t,.own r)::T) ((r,.bQ e te s [])::(s,.store e tr [])::H) x Q):Ok P c T H x Q:=by
 intro a w ⟨ε,φ,hs⟩;have hne':r≠s:=fun e=>by subst e;simp at hne
 have hN:=hs.ky (x:=.store e tr []) (b:=.agg #[]) (F:=noBlocks) (r:=s) hf2 (Below.refl _ _) (fun k hk=>hk.elim)
  ⟨#[],fun _=>noBlocks,rfl,rfl,(fun k xs v hx=>by simp at hx),(fun k k' hk=>by simp at hk),fun i=>⟨fun h=>h.elim,fun⟨k,hk,_⟩=>by simp at hk⟩⟩ (fun r' hr'=>by cases hr')
 have hr0:bp (ai H) [(s,Hp.store e tr [])] r=none:=by rw[bG,aL _ _ hne'];exact hf
 have hN2:=hN.ky (x:=.bQ e te s []) (b:=.slice none 0 0) (F:=noBlocks) (r:=r) hr0 (Below.refl _ _) (fun k hk=>hk.elim)
  ⟨#[],by rw[aL _ _ (Ne.symm hne'),aB],.inl ⟨rfl,rfl,rfl⟩⟩ (fun r' hr'=>by
   have:r'=s:=by simpa [Hp.bQ]using hr'
   subst this;rw[bG,aB];simp)
 have hv:a.tmps.getD t undef=.slice none 0 0:=hs.t t _ ht;refine h a w ⟨_,_,tp (Sat_ext' hN2 (fun r'=>?_)) ⟨by rw[hv,aB],by rw[hv];rfl⟩ (fun r' hr'=>?_)⟩
 ·rw[bu,bu];rfl
 ·have:r'=r:=by simpa [D.own]using hr'
  subst this;simp[ai]
where
 Sat_ext' {c:Ctx} {T:Nat->Option D} {H H':Nat->Option Hp} {a:Act} {w:World} {ε:Env} {φ:Nat->cl} (h:cf c T H a w ε φ) (hH:∀r,H r=H' r):cf c T H' a w ε φ:=by
  have:H=H':=funext hH;subst this;exact h
theorem Ok.CJ{α:Type}{x:Code}{Q:Exit->Act->World->Prop}{e:aK α}{te:TypeId}{X:List (List α)}(r s:Nat)(tr:TypeId)(hh:ai H r=some (bm (aK.slice e) te X))(hf:ai H s=none)
  (h:Ok P c T ((r,.bQ e te s X)::(s,.store e tr [])::H) x Q):Ok P c T H x Q:=by
 intro a w ⟨ε,φ,hs⟩;have hne:r≠s:=fun e=>by subst e;rw[hh]at hf;cases hf
 have hN:=hs.ky (x:=.store e tr []) (b:=.agg #[]) (F:=noBlocks) (r:=s) hf (Below.refl _ _) (fun k hk=>hk.elim)
  ⟨#[],fun _=>noBlocks,rfl,rfl,(fun k xs v hx=>by simp at hx),(fun k k' hk=>by simp at hk),fun i=>⟨fun h=>h.elim,fun⟨k,hk,_⟩=>by simp at hk⟩⟩ (fun r' hr'=>by cases hr')
 have hr0:bp (ai H) [(s,Hp.store e tr [])] r=some (bm (aK.slice e) te X):=by rw[bG,aL _ _ hne];exact hh
 have hrow:=hN.h r _ hr0;have hfl:flat (aK.slice e) X=X.map (br e):=ke e X;have hT:=hN.tell (y:=.bQ e te s X) hr0 ⟨#[],aB _ _ _,by
  have h2:jk 1 te (flat (aK.slice e) X) _ _ _ _ _:=hrow;rw[hfl]at h2;exact h2⟩ (fun r' hr'=>by
   have:r'=s:=by simpa [Hp.bQ]using hr'
   subst this;rw[bG,aB];simp)
 refine h a w (Sat.ext (T:=aO T) (H:=bp (bp (ai H) [(s,.store e tr [])]) [(r,.bQ e te s X)]) ⟨_,_,hT⟩ (fun _=>rfl) (fun r'=>?_));rw[bu,bu];rfl
theorem j2{e:aK α}{te:TypeId}{xs:List α}{ε:Env}{w:World}{S S':cl}{b:Value}{F:cl}(h:(bm e te xs).p ε w S b F)(hm:0<e.n)(hS:∀k,S k->S' k)(hF:∀k,F k->S' k):(br e xs).p ε w S' b:=by
 rcases h with⟨e0,eb,_⟩|⟨g,n',cap,cs,rest,eb,eF',hg,h1',hcap,_,hln,hcs⟩
 ·have h0:=cb e xs;rw[e0]at h0;have:xs.length=0:=by rcases Nat.mul_eq_zero.1 h0.symm with h|h<;>omega
  exact⟨none,0,by rw[eb,this],by omega,cb e xs,.inl this⟩
 ·have hn':n'=xs.length:=Nat.eq_of_mul_eq_mul_right hm (hln.symm.trans (cb e xs));subst hn';refine⟨some ⟨g,0,none⟩,cap,eb,?_,cb e xs,.inr ⟨g,0,rfl,hF g (by rw[eF'];rfl),(cs++rest).toArray,te,(0,0),cs,hg,fun j u hj=>?_,h1',?_⟩⟩
  ·have hle:xs.length*e.n<=cap*e.n:=by rw[←hcap,List.length_append,aS hcs,cb];omega
   exact Nat.le_of_mul_le_mul_right hle hm
  ·rw[Nat.zero_add];simp only[List.getElem?_toArray];rw[List.getElem?_append_left (List.getElem?_eq_some_iff.1 hj).1];exact hj
  ·exact bN (fun k hk _=>⟨hS k hk,rfl⟩) hcs (by rw[eO];intro r' hr';cases hr')
theorem Ok.Ai{x:Code}{Q:Exit->Act->World->Prop}(t:Nat)(ht:aO T t=some (.own r))(hh:ai H r=some (.bQ e te s []))(hk:ai H s=some (.store e tr M))(hm:Nat.blt 0 e.n=true)(hne:Nat.beq r s=false)
  (h:Ok P c ((t,br (aK.slice e) M)::T) ((r,.dead)::(s,.dead)::H) x Q):Ok P c T H x Q:=by
 intro a w ⟨ε,φ,hs⟩;have hm0:0<e.n:=by simpa using hm
 have hne':r≠s:=fun e=>by subst e;simp at hne
 have hv:a.tmps.getD t undef=ε r:=(hs.t t _ ht).1;have c_:=hs.h r _ hh;have hsto:=hs.h s _ hk;have hrow:=jG c_ hsto
 let φ':Nat->cl:=cW (cW φ r noBlocks) s noBlocks
 have f1:φ' r=noBlocks:=by show cW (cW φ r noBlocks) s noBlocks r=_;rw[aL _ _ hne',aB]
 have f2:φ' s=noBlocks:=aB _ _ _;have f3:∀q,q≠r->q≠s->φ' q=φ q:=fun q h1 h2=>by show cW (cW φ r noBlocks) s noBlocks q=_;rw[aL _ _ h2,aL _ _ h1]
 have hL:∀q,ai [(r,Hp.dead),(s,Hp.dead)] q=if q=r then some .dead else if q=s then some .dead else none:=by
  intro q;simp only[ai]
  cases h1:Nat.beq q r with
  |true=>rw[if_pos (Nat.eq_of_beq_eq_true h1)]
  |false=>
   rw[if_neg (fun e=>by subst e;simp at h1)]
   cases h2:Nat.beq q s with
   |true=>rw[if_pos (Nat.eq_of_beq_eq_true h2)]
   |false=>rw[if_neg (fun e=>by subst e;simp at h2)]
 have cls:∀q,ai [(r,Hp.dead),(s,Hp.dead)] q≠none->φ' q=noBlocks:=by
  intro q h;rw[hL]at h;by_cases h1:q=r
  ·rw[h1,f1]
  ·by_cases h2:q=s
   ·rw[h2,f2]
   ·simp[h1,h2]at h
 have hR:=hs.oZ (L:=[(r,.dead),(s,.dead)]) (ε':=ε) (φ':=φ') (fun _ _=>rfl) (fun q hq=>by
   rw[hL]at hq;by_cases h1:q=r
   ·simp[h1]at hq
   ·by_cases h2:q=s
    ·simp[h1,h2]at hq
    ·exact f3 q h1 h2) (fun q k hq hk=>by rw[cls q hq]at hk;exact hk.elim) (fun q q' hq hq' _ k hk=>by rw[cls q hq]at hk;exact hk.elim)
   (fun q y hq=>by
    have:φ' q=noBlocks:=cls q (by rw[hq];simp);rw[hL]at hq;by_cases h1:q=r
    ·rw[if_pos h1]at hq;injection hq with hq;subst hq;exact this
    ·rw[if_neg h1]at hq;by_cases h2:q=s
     ·rw[if_pos h2]at hq;injection hq with hq;subst hq;exact this
     ·rw[if_neg h2]at hq;cases hq)
   (fun q y hq q' hq'=>by
    rw[hL]at hq;by_cases h1:q=r
    ·rw[if_pos h1]at hq;injection hq with hq;subst hq;cases hq'
    ·rw[if_neg h1]at hq;by_cases h2:q=s
     ·rw[if_pos h2]at hq;injection hq with hq;subst hq;cases hq'
     ·rw[if_neg h2]at hq;cases hq)
 have hSr:∀q,(q=r\/q=s)->∀k,φ q k->Am.ak c (bp (ai H) [(r,.dead),(s,.dead)]) φ' k:=by
  intro q hq k hk;have hq0:ai H q≠none:=by rcases hq with rfl|rfl<;>simp[hh,hk]
  have hlo:=hs.lo q hq0 k hk;refine⟨hlo.1.elim (fun h=>.inr (.inl h)) (fun h=>.inr (.inr h)),fun q' hq' hf=>?_⟩;by_cases h1:q'=r
  ·rw[h1,f1]at hf;exact hf
  ·by_cases h2:q'=s
   ·rw[h2,f2]at hf;exact hf
   ·rw[f3 q' h1 h2]at hf;have h0:ai H q'≠none:=by
     intro h0;apply hq';simp only[bp];rw[hL,if_neg h1,if_neg h2];exact h0
    exact hs.dj q q' hq0 h0 (by rcases hq with rfl|rfl<;>exact Ne.symm (by assumption)) k hk hf
 refine h a w ⟨ε,φ',qm (by
  have:=hR.1;rw[bu]at this;exact this) ?_ rfl⟩
 have hreg:∀k,Am.ak c (ai H) φ k->Am.ak c (ai ([(r,Hp.dead),(s,Hp.dead)]++H)) φ' k:=by rw[←bu];exact hR.2
 rw[bu]at hSr;obtain⟨vs,G,e1,e2,e3,e4,e5⟩:=hsto;rw[List.map_nil,List.append_nil]at hrow;have hfl:flat (aK.slice e) M=M.map (br e):=ke e M;have hrow2:jk 1 te (M.map (br e)) ε w (Am.ak c (ai ([(r,Hp.dead),(s,Hp.dead)]++H)) φ') (ε r) (φ r):=by
  rcases hrow with⟨h0,h1,h2⟩|⟨g,n,cap,cs,rest,h1,h2,h3,h4,h5,h8,h6,h7⟩
  ·have:M.length=0:=by have:=congrArg List.length h0;rwa [bz]at this
   have:M=[]:=List.eq_nil_of_length_eq_zero this;exact .inl ⟨by rw[this];rfl,h1,h2⟩
  ·refine .inr ⟨g,n,cap,cs,rest,h1,h2,h3,h4,h5,h8,by rw[←h6];simp[bz],?_⟩;have hcl:=aS h7;rw[bz]at hcl;have key:∀(N:List (List α)) (us:List Value),us.length=N.length->(∀(k:Nat) (xs:List α) (v:Value),N[k]?=some xs->us[k]?=some v->(br e xs).p ε w (Am.ak c (ai ([(r,Hp.dead),(s,Hp.dead)]++H)) φ') v)->bX ε w (Am.ak c (ai ([(r,Hp.dead),(s,Hp.dead)]++H)) φ') (N.map (br e)) us:=by
    intro N
    induction N with
    |nil=>intro us hl _;have:=List.eq_nil_of_length_eq_zero hl;subst this;exact trivial
    |cons x N ih=>
     intro us hl hk'
     cases us with
     |nil=>simp at hl
     |cons u us=>
      exact⟨hk' 0 x u rfl rfl,ih us (by simpa using hl) (fun k xs v hx hv=>hk' (k+1) xs v (by simpa using hx) (by simpa using hv))⟩
   refine key M cs hcl (fun k xs v hx hv=>?_);have hkl:k<M.length:=(List.getElem?_eq_some_iff.1 hx).1;have hv2:vs[k]?=some v:=by
    have:=jF (s:=s) (S:=Am.ak c (ai H) φ) (w:=w) e1 (by rw[e2];exact h7);rw[this]at hv;simpa using hv
   exact j2 (e3 k xs v hx hv2) hm0 hreg (fun i hi=>hSr s (.inr rfl) i ((e5 i).2 ⟨k,hkl,hi⟩))
 have:=j2 (e:=aK.slice e) (te:=te) (xs:=M) (F:=φ r) (S:=Am.ak c (ai ([(r,Hp.dead),(s,Hp.dead)]++H)) φ') (by show jk 1 te (flat (aK.slice e) M) _ _ _ _ _;rw[hfl];exact hrow2) (show 0<1 by decide) (fun _ h=>h) (fun i hi=>hSr r (.inl rfl) i hi);rw[hv];exact this
end
end Go.Am
namespace Go.Am
open Go.RowKit
section
variable {P:Program} {os:List Oper} {c:Ctx} {T T':List (Nat×D)} {H H':List (Nat×Hp)} {sps:List Spec}
variable {ops:Array Oper} {dst:Option Nat} {ty:TypeId} {pos:String} {aft:Array Edge}
variable {α:Type} {e:aK α} {te tr:TypeId} {r s:Nat} {M X:List (List α)}
theorem cf.xi{T0:Nat->Option D}{H0:Nat->Option Hp}{a:Act}{w:World}{ε:Env}{φ:Nat->cl}(hs:cf c T0 H0 a w ε φ){x:Hp}{l:List D}{z:Nat}{d:D}{v:Value}(hr:H0 r=some x)(hx:jk 1 te l ε w (Am.ak c H0 φ) (ε r) (φ r))(hz:z<l.length)(hv:v.oneCell'=true)(hd:d.p ε w (Am.ak c H0 φ) v)(hnm:∀q∈bF (l.set z d),H0 q≠none):
  ∃w',(storeCells (⟨iv (ε r),z,none⟩:Addr) [v]).run P w=.ok () w'/\cf c T0 (bp H0 [(r,.dh 1 te (l.set z d))]) a w' ε φ:=by
 rcases hx with⟨e0,_,_⟩|⟨g,n',cap,cs,rest,hb,eF,hg,h1,hcap,hmax,hln,hcs⟩
 ·subst e0;simp at hz
 ·have hlen:=aS hcs;have hst:=run_storeCells_at (P:=P) g z te [v] 0 (cs++rest).toArray w hg (by simp;omega) (by simpa using hv);simp only[Nat.add_zero,List.length_singleton]at hst;have hsplit:(cs++rest).take z++[v]++(cs++rest).drop (z+1)=cs.set z v++rest:=by
   rw[List.take_append_of_le_length (by omega),List.drop_append_of_le_length (by omega),List.set_eq_take_append_cons_drop,if_pos (by omega)];simp[List.append_assoc]
  rw[hsplit]at hst;have hfar:∀k,¬φ r k->(w.setRow g (cs.set z v++rest).toArray).heap[k]?=w.heap[k]?:=fun k hk=>eP _ _ _ _ (fun e'=>hk (by rw[eF,e'];rfl));refine⟨w.setRow g (cs.set z v++rest).toArray,(by rw[hb];exact hst),hs.pM hr (by simp[World.setRow]) rfl rfl rfl hfar (.inr ⟨g,n',cap,cs.set z v,rest,hb,eF,setRow_heap w g (cs++rest).toArray _ te _ hg,?_,?_,hmax,?_,?_⟩) hnm⟩
  ·intro u hu;rcases List.mem_or_eq_of_mem_set hu with h|rfl
   ·exact h1 u h
   ·exact hv
  ·rw[←hcap];simp
  ·rw[List.length_set];exact hln
  ·exact bN (fun k hk _=>⟨hk,hfar k (hk.2 r (by simp[hr]))⟩) (pZ hd z hcs) (fun _ _=>rfl)
theorem xm{l:List D}{x d:D}{Y:List D}{n:Nat}(h:l.length=n):(l++x::Y).set n d=(l++[d])++Y:=by
 subst h;rw[List.set_append_right _ _ (Nat.le_refl _),Nat.sub_self,List.set_cons_zero,List.append_assoc];rfl
theorem ox(vs:Array Value)(v:Value):bV (vs.push v).toList=bV vs.toList++[D.lit v]:=by simp[bV]
theorem pB(vs:Array Value)(v:Value)(k:Nat)(h:k<vs.size):bV (vs.set k v h).toList=(bV vs.toList).set k (D.lit v):=by simp[bV,List.map_set]
theorem ri{ε:Env}{w:World}{S:cl}{F1:cl}{xs:List α}{vs:Array Value}{G:Nat->cl}{v:Value}(h1:vs.size=M.length)(h2:∀k xs v,M[k]?=some xs->vs[k]?=some v->(bm e tr xs).p ε w S v (G k))(h3:∀k k',k<M.length->k'<M.length->k≠k'->∀i,G k i->¬G k' i)(hx:(bm e tr xs).p ε w S v F1)(hd:∀k,k<M.length->∀i,G k i->¬F1 i):
  ((vs.push v).size=(M++[xs]).length)/\(∀k ys u,(M++[xs])[k]?=some ys->(vs.push v)[k]?=some u->(bm e tr ys).p ε w S u (cW G M.length F1 k))/\(∀k k',k<(M++[xs]).length->k'<(M++[xs]).length->k≠k'->∀i,cW G M.length F1 k i->¬cW G M.length F1 k' i)/\(∀k,k<(M++[xs]).length->∀i,cW G M.length F1 k i->(k<M.length/\G k i)\/F1 i):=by
 have gn:cW G M.length F1 M.length=F1:=aB _ _ _;have gk:∀k,k<M.length->cW G M.length F1 k=G k:=fun k hk=>aL _ _ (by omega);refine⟨by simp[h1],fun k ys u hy hu=>?_,fun k k' hk hk' hne i hi=>?_,fun k hk i hi=>?_⟩
 ·by_cases hk:k<M.length
  ·rw[List.getElem?_append_left hk]at hy;rw[Array.getElem?_push_lt (by omega)]at hu;rw[gk k hk];exact h2 k ys u hy (by rw[←hu];simp[h1,hk])
  ·have hlt:=(List.getElem?_eq_some_iff.1 hy).1;simp only[List.length_append,List.length_singleton]at hlt;have:k=M.length:=by omega
   subst this;rw[gn];simp at hy;subst hy;rw[←h1]at hu;simp at hu;subst hu;exact hx
 ·simp only[List.length_append,List.length_singleton]at hk hk';by_cases a1:k<M.length
  ·rw[gk k a1]at hi;by_cases a2:k'<M.length
   ·rw[gk k' a2];exact h3 k k' a1 a2 hne i hi
   ·have:k'=M.length:=by omega
    subst this;rw[gn];exact hd k a1 i hi
  ·have:k=M.length:=by omega
   subst this;rw[gn]at hi;have a2:k'<M.length:=by omega
   rw[gk k' a2];exact fun h=>hd k' a2 i h hi
 ·simp only[List.length_append,List.length_singleton]at hk;by_cases a1:k<M.length
  ·rw[gk k a1]at hi;exact .inl ⟨a1,hi⟩
  ·have:k=M.length:=by omega
   subst this;rw[gn]at hi;exact .inr hi
def xS(x:Operand)(d:D)(y:Operand)(d':D)(Hi Ho:List (Nat×Hp))(nw:List Nat):Spec:={ins:=dM x d++dM y d',cO:=Hi,out:=.any,c_:=Ho,news:=nw}
theorem aj.Cp{t:TypeId}{x y:Operand}{r1 s2 m:Nat}{z:Int}{x0 xs:List α}(hz:z.toNat=M.length)(h:ev T x=some (.ref r (z.toNat*m)))(hy:ev T y=some (.own r1))(hh:ai H r=some (.bQ e te s (x0::X)))(hk:ai H s=some (.store e tr M))(h1:ai H r1=some (bm e tr xs))(hf:ai H s2=none)
  (hne:r≠s/\r≠r1/\s≠r1)(hm:m=1)(ht:lay P t=some none)
  (hr:aj P ops c os (bf T dst .any) ((r,.bQ e te s2 X)::(s2,.store e tr (M++[xs]))::(s,.dead)::(r1,.dead)::H) sps T' H'):
  aj P ops c (⟨dst,.store t x y,ty,pos,aft,none⟩::os) T H (xS x (.ref r (z.toNat*m)) y (.own r1) [(r,.bQ e te s (x0::X)),(s,.store e tr M),(r1,bm e tr xs)] [(r,.bQ e te s2 X),(s2,.store e tr (M++[xs])),(s,.dead),(r1,.dead)] [s2]::sps) T' H':=by
 subst hm;refine .cons (sp:=xS x (.ref r (z.toNat*1)) y (.own r1) [(r,.bQ e te s (x0::X)),(s,.store e tr M),(r1,bm e tr xs)] [(r,.bQ e te s2 X),(s2,.store e tr (M++[xs])),(s,.dead),(r1,.dead)] [s2]) ?_ (aV.2 ⟨(aA h).1,(aA hy).1⟩) ⟨hh,hk,h1,trivial⟩ ⟨hf,trivial⟩ hr;intro hdst T0 H0 hi cO hnew a w ⟨ε,φ,hs⟩ Q K hK;rw[if_pos (a_ rfl _)];obtain⟨hi1,hi2⟩:=aV.1 hi;have hx:a.eval x=.pointer (some ⟨iv (ε r),z.toNat*1,none⟩):=(hs.ev hi1 (aA h).2).1;obtain⟨hye,hyo⟩:=(hs.ev hi2 (aA hy).2).1;obtain⟨hr0,hs0,hr10,_⟩:=cO;obtain⟨vs,G,e1,e2,_⟩:=hs.h s _ hs0;have hrow:=pO e1 (hs.h r _ hr0);have hl1:(bV vs.toList).length=M.length:=by rw[ka];simpa using e2
 have hset:(bV vs.toList++(x0::X).map (br e)).set M.length (D.lit (ε r1))=bV (vs.push (ε r1)).toList++X.map (br e):=by
  rw[List.map_cons,xm hl1,ox]
 obtain⟨w',hst,hS⟩:=hs.xi (P:=P) (z:=M.length) (d:=D.lit (ε r1)) (v:=ε r1) hr0 hrow (by simp[hl1]) (hye▸hyo) rfl (fun q hq=>by
  rw[hset,cU (cN _) (kn e X)]at hq;cases hq)
 have hrun:(execOp a.eval ⟨dst,.store t x y,ty,pos,aft,none⟩).run P w=.ok .skip w':=by
  have hcl:(a.eval y).cells=#[ε r1]:=by
   have:(ε r1).oneCell'=true:=hye▸hyo;rw[hye];cases hq:ε r1<;>simp_all [Value.cells,Value.oneCell']
  rw[hz,Nat.mul_one]at hx;simp only[execOp,Instr.storeAt,hx,Instr.sureAddr,Sem.run_bind,Sem.run_pure,Result.andThen_ok,storeVar,(ij ht w).2,hcl];simp[hst]
 simp only[Oper.wp,hrun,Oper.upon];rw[hset]at hS;have u1:bp H0 [(r,.dh 1 te (bV (vs.push (ε r1)).toList++X.map (br e)))] s=some (.store e tr M):=by rw[bG,aL _ _ (Ne.symm hne.1)];exact hs0
 have u2:bp H0 [(r,.dh 1 te (bV (vs.push (ε r1)).toList++X.map (br e)))] r1=some (bm e tr xs):=by rw[bG,aL _ _ (Ne.symm hne.2.1)];exact hr10
 have u3:bp H0 [(r,.dh 1 te (bV (vs.push (ε r1)).toList++X.map (br e)))] r=some (.dh 1 te (bV (vs.push (ε r1)).toList++X.map (br e))):=by rw[bG,aB]
 have u4:bp H0 [(r,.dh 1 te (bV (vs.push (ε r1)).toList++X.map (br e)))] s2=none:=by
  rw[bG,aL _ _ (fun e=>by rw[←e,hnew.1]at hr0;cases hr0)];exact hnew.1
 obtain⟨vs',G',f1,f2,f3,f4,f5⟩:=hS.h s _ u1;rw[e1]at f1;injection f1 with f1;subst f1;obtain⟨g1,g2,g3,g4⟩:=ri f2 f3 f4 (hS.h r1 _ u2) (fun k hk i hi hi'=>hS.dj s r1 (by rw[u1];simp) (by rw[u2];simp) hne.2.2 i ((f5 i).2 ⟨k,hk,hi⟩) hi');have hG:=hS.rI (r:=r) (te:=te) (X:=X) [s,r1] (fun q hq=>by
   simp only[List.mem_cons,List.not_mem_nil,or_false]at hq;rcases hq with rfl|rfl
   ·rw[u1];simp
   ·rw[u2];simp) u4 (by rw[u3];simp) (by simp[hne.1,hne.2.1]) (vs.push (ε r1)) _ g1 g2 g3 (fun k hk i hi=>(g4 k hk i hi).elim (fun h=>⟨s,by simp,(f5 i).2 ⟨k,h.1,h.2⟩⟩) (fun h=>⟨r1,by simp,h⟩)) (hS.h r _ u3)
 rw[nL (by simp[ai])]at hG;obtain⟨ε2,φ2,hG⟩:=hG;exact hK _ _ ⟨ε2,φ2,hG.put (d:=.any) (cG hdst) trivial (fun _ h=>by cases h)⟩
end
end Go.Am
namespace Go.Am
open Go.RowKit
section
variable {P:Program} {os:List Oper} {c:Ctx} {T T':List (Nat×D)} {H H':List (Nat×Hp)} {sps:List Spec}
variable {ops:Array Oper} {dst:Option Nat} {ty:TypeId} {pos:String} {aft:Array Edge}
variable {α:Type} {e:aK α} {te tr:TypeId} {r s:Nat} {M X:List (List α)}
theorem aj.CN{t:TypeId}{x y:Operand}{rl r1 r2 s2 bt:Nat}{z:List D}{dx:D}{xs:List α}(hx:ev T x=some dx)(hle:Le dx (.own r))(hy:ev T y=some (.own rl))(hh:ai H r=some (.bQ e te s []))(hk:ai H s=some (.store e tr M))(hl:ai H rl=some (.dh 1 te [.own r1]))(h1:ai H r1=some (bm e tr xs))
  (hm:mj P t=some (te,1,bt,z))(hb:(M.length+1)*bt<=140737488355328)(hmax:M.length+1<=9223372036854775807)(hf:ai H r2=none)(hf2:ai H s2=none)(hne:r≠s/\r≠r1/\s≠r1/\r≠rl/\s≠rl/\r1≠rl/\r2≠s2)
  (hr:aj P ops c os ((r2,.own r2)::T) ((r2,.bQ e te s2 [])::(s2,.store e tr (M++[xs]))::(s,.dead)::(r1,.dead)::(rl,.dead)::(r,.dead)::H) sps T' H'):
  aj P ops c (⟨some r2,.call {callee:=.builtin .append,args:=#[x,y],argTypes:=#[t,t]},ty,pos,aft,none⟩::os) T H
   ({ins:=dM x dx++dM y (.own rl),cO:=[(r,.bQ e te s []),(s,.store e tr M),(rl,.dh 1 te [.own r1]),(r1,bm e tr xs)],out:=.own r2,c_:=[(r2,.bQ e te s2 []),(s2,.store e tr (M++[xs])),(s,.dead),(r1,.dead),(rl,.dead),(r,.dead)],news:=[r2,s2]}::sps) T' H':=by
 refine .cons (sp:={ins:=dM x dx++dM y (.own rl),cO:=[(r,.bQ e te s []),(s,.store e tr M),(rl,.dh 1 te [.own r1]),(r1,bm e tr xs)],out:=.own r2,c_:=[(r2,.bQ e te s2 []),(s2,.store e tr (M++[xs])),(s,.dead),(r1,.dead),(rl,.dead),(r,.dead)],news:=[r2,s2]}) ?_ (aV.2 ⟨(aA hx).1,(aA hy).1⟩) ⟨hh,hk,hl,h1,trivial⟩ ⟨hf,hf2,trivial⟩ hr;intro hdst T0 H0 hi cO hnew a w ⟨ε,φ,hs⟩ Q K hK;rw[if_pos (a_ rfl _)];obtain⟨hi1,hi2⟩:=aV.1 hi;have hxe:a.eval x=ε r:=(hle.1 _ _ _ _ (hs.ev hi1 (aA hx).2).1).1;have hye:a.eval y=ε rl:=(hs.ev hi2 (aA hy).2).1.1;obtain⟨hr0,hs0,hl0,hr10,_⟩:=cO;obtain⟨hn1,hn2,_⟩:=hnew;have live:∀q y,H0 q=some y->q≠r2/\q≠s2:=fun q y hq=>⟨fun(e':q=r2)=>(by rw[e',hn1]at hq;cases hq),fun(e':q=s2)=>(by rw[e',hn2]at hq;cases hq)⟩;obtain⟨vs,G,e1,e2,_⟩:=hs.h s _ hs0;have hrow:=pO e1 (hs.h r _ hr0);rw[List.map_nil,List.append_nil]at hrow;have hT:=hs.tell (y:=.row 1 te (bV vs.toList) (cN _)) hr0 hrow (fun q hq=>by cases hq);have q1:bp H0 [(r,Hp.row 1 te (bV vs.toList) (cN _))] r=some (.row 1 te (bV vs.toList) (cN _)):=by rw[bG,aB]
 have qn:∀q,q≠r->bp H0 [(r,Hp.row 1 te (bV vs.toList) (cN _))] q=H0 q:=fun q hq=>by rw[bG,aL _ _ hq]
 -- the literal
 rcases hs.h rl _ hl0 with⟨h0,_,_⟩|⟨g,n',cap,cs,rest,hb',eF,hg,hc1,hcap,hmaxc,hln,hcs⟩
 ·cases h0
 have hn':n'=1:=by simpa using hln.symm
 subst hn';have hcs1:cs=[ε r1]:=by
  match cs,hcs with
  |[v],h=>rw[h.1.1]
 subst hcs1;have hv1:(ε r1).oneCell'=true:=hc1 _ (by simp);obtain⟨v',w',ε',φ',hrun,hS,ev',ho,hεε⟩:=hT.BQ (P:=P) (ty:=ty) hm (r:=r2) (n1:=M.length) (n2:=1) (l2:=[D.lit (ε r1)]) (l:=bV (vs.push (ε r1)).toList) (hl:=cN _) q1 (by rw[qn _ (Ne.symm (live r _ hr0).1)];exact hn1) (by rw[ka];simpa using e2) rfl rfl (ox vs (ε r1)).symm
  (A:=some ⟨g,0,none⟩) (cap2:=cap) (vs:=[ε r1]) (.inr ⟨g,0,rfl,fun j u hj=>by
   rw[Nat.zero_add,fO hg];rw[List.getElem?_append_left (List.getElem?_eq_some_iff.1 hj).1];exact hj⟩) (by simpa using hv1) ⟨rfl,trivial⟩ hb hmax
 have hrun':(Builtin.append_ #[t,t] ty #[a.eval x,a.eval y]).run P w=.ok v' w':=by rw[hxe,hye,hb'];exact hrun
 simp only[Oper.wp,kh a w w' hrun',Oper.upon];have n1:=live r _ hr0;have n2:=live s _ hs0;have n3:=live r1 _ hr10;have n4:=live rl _ hl0;have hUU:bp (bp H0 [(r,Hp.row 1 te (bV vs.toList) (cN _))]) [(r,.dead),(r2,.row 1 te (bV (vs.push (ε r1)).toList) (cN _))]=bp H0 [(r,.dead),(r2,.row 1 te (bV (vs.push (ε r1)).toList) (cN _))]:=nL (by simp[ai]);have hcast:cf c T0 (bp H0 [(r,.dead),(r2,.row 1 te (bV (vs.push (ε r1)).toList) (cN _))]) a w' ε' φ':=by rw[←hUU];exact hS
 clear hS;replace hcast:=hcast.put (dst:=some r2) (d:=.own r2) (cG hdst) ⟨ev'.symm,ho⟩ (fun q hq=>by
  have:q=r2:=by simpa [D.own]using hq
  subst this;rw[fx,aL _ _ (Ne.symm (live r _ hr0).1),aB];simp)
 have U:∀q,q≠r->q≠r2->bp H0 [(r,.dead),(r2,.row 1 te (bV (vs.push (ε r1)).toList) (cN _))] q=H0 q:=fun q h1 h2=>by rw[fx,aL _ _ h1,aL _ _ h2]
 have u1:=(U s (Ne.symm hne.1) n2.1).trans hs0;have u2:=(U r1 (Ne.symm hne.2.1) n3.1).trans hr10;have u5:=(U rl (Ne.symm hne.2.2.2.1) n4.1).trans hl0;have u3:bp H0 [(r,.dead),(r2,.row 1 te (bV (vs.push (ε r1)).toList) (cN _))] r2=some (.row 1 te (bV (vs.push (ε r1)).toList) (cN _)):=by rw[fx,aL _ _ (Ne.symm n1.1),aB]
 have u4:=(U s2 (Ne.symm n1.2) (Ne.symm hne.2.2.2.2.2.2)).trans hn2;obtain⟨vs',G',f1,f2,f3,f4,f5⟩:=hcast.h s _ u1;rw[hεε s n2.1,e1]at f1;injection f1 with f1;subst f1;have hx1:=hcast.h r1 _ u2;rw[hεε r1 n3.1]at hx1;obtain⟨g1,g2,g3,g4⟩:=ri f2 f3 f4 hx1 (fun k hk i hi hi'=>hcast.dj s r1 (by rw[u1];simp) (by rw[u2];simp) hne.2.2.1 i ((f5 i).2 ⟨k,hk,hi⟩) hi');have hG:=hcast.rI (r:=r2) (te:=te) (X:=[]) (e:=e) [s,r1,rl] (fun q hq=>by
   simp only[List.mem_cons,List.not_mem_nil,or_false]at hq;rcases hq with rfl|rfl|rfl
   ·rw[u1];simp
   ·rw[u2];simp
   ·rw[u5];simp) u4 (by rw[u3];simp) (by simp[Ne.symm n2.1,Ne.symm n3.1,Ne.symm n4.1]) (vs.push (ε r1)) _ g1 g2 g3 (fun k hk i hi=>(g4 k hk i hi).elim (fun h=>⟨s,by simp,(f5 i).2 ⟨k,h.1,h.2⟩⟩) (fun h=>⟨r1,by simp,h⟩)) (by
    rw[List.map_nil,List.append_nil];exact hcast.h r2 _ u3)
 have hfin:bp (bp H0 [(r,.dead),(r2,.row 1 te (bV (vs.push (ε r1)).toList) (cN _))]) ((r2,Hp.bQ e te s2 [])::(s2,Hp.store e tr (M++[xs]))::[s,r1,rl].map fun k=>(k,Hp.dead))=bp H0 [(r2,.bQ e te s2 []),(s2,.store e tr (M++[xs])),(s,.dead),(r1,.dead),(rl,.dead),(r,.dead)]:=by
  funext q
  simp only[bp,ai,List.map_cons,List.map_nil];cases Nat.beq q r2<;>cases Nat.beq q s2<;>cases Nat.beq q s<;>cases Nat.beq q r1<;>cases Nat.beq q rl<;>cases Nat.beq q r<;>rfl
 rw[hfin]at hG;exact hK _ _ hG
end
end Go.Am
namespace Go.Am
open Go.RowKit
section
variable {P:Program} {os:List Oper} {c:Ctx} {T T':List (Nat×D)} {H H':List (Nat×Hp)} {sps:List Spec}
variable {ops:Array Oper} {dst:Option Nat} {ty:TypeId} {pos:String} {aft:Array Edge}
variable {α:Type} {e:aK α} {te tr:TypeId} {r s:Nat} {M X:List (List α)}
theorem py{v:Value}(h:v.oneCell'=true):v.cells=#[v]:=by cases v<;>simp_all [Value.cells,Value.oneCell']
theorem xV{js:List Nat}{q:Nat}(h:q∈bF (js.map (D.mr s))):q=s:=by
 obtain⟨d,hd,hr⟩:=bM.1 h;obtain⟨k,_,rfl⟩:=List.mem_map.1 hd;simpa [D.mr]using hr
theorem vL{t:TypeId}{x y:Operand}{k m:Nat}{z:Int}{js:List Nat}{hp:Hp}{F:List (List α)}(hrow:∀ε w S A A',hp.p ε w S (ε r) A->(Hp.store e tr F).p ε w S (ε s) A'->jk 1 te (js.map (D.mr s)) ε w S (ε r) A)(hz:z.toNat<js.length)(h:ev T x=some (.ref r (z.toNat*m)))(hy:ev T y=some (.mr s k))(hh:ai H r=some hp)(hk:ai H s=some (.store e tr F))(hm:m=1)(ht:lay P t=some none)
  (hr:aj P ops c os (bf T dst .any) ((r,.dh 1 te ((js.set z.toNat k).map (D.mr s)))::H) sps T' H'):
  aj P ops c (⟨dst,.store t x y,ty,pos,aft,none⟩::os) T H (xS x (.ref r (z.toNat*m)) y (.mr s k) [(r,hp),(s,.store e tr F)] [(r,.dh 1 te ((js.set z.toNat k).map (D.mr s)))] []::sps) T' H':=by
 subst hm;refine .cons (sp:=xS x (.ref r (z.toNat*1)) y (.mr s k) [(r,hp),(s,.store e tr F)] [(r,.dh 1 te ((js.set z.toNat k).map (D.mr s)))] []) ?_ (aV.2 ⟨(aA h).1,(aA hy).1⟩) ⟨hh,hk,trivial⟩ trivial hr;intro hdst T0 H0 hi cO _ a w ⟨ε,φ,hs⟩ Q K hK;rw[if_pos (a_ rfl _)];obtain⟨hi1,hi2⟩:=aV.1 hi;have hx:a.eval x=.pointer (some ⟨iv (ε r),z.toNat*1,none⟩):=(hs.ev hi1 (aA h).2).1;have hyv:=(hs.ev hi2 (aA hy).2).1;obtain⟨hr0,hs0,_⟩:=cO;have hro:=hrow ε w _ _ _ (hs.h r _ hr0) (hs.h s _ hs0);have hset:(js.map (D.mr s)).set z.toNat (D.mr s k)=(js.set z.toNat k).map (D.mr s):=by rw[List.map_set]
 obtain⟨w',hst,hS⟩:=hs.xi (P:=P) (z:=z.toNat) (d:=D.mr s k) (v:=a.eval y) hr0 hro (by simpa using hz) hyv.1 hyv (fun q hq=>by
  rw[hset]at hq;rw[xV hq,hs0];simp)
 have hrun:(execOp a.eval ⟨dst,.store t x y,ty,pos,aft,none⟩).run P w=.ok .skip w':=by
  have hcl:(a.eval y).cells=#[a.eval y]:=py hyv.1;rw[Nat.mul_one]at hx;simp only[execOp,Instr.storeAt,hx,Instr.sureAddr,Sem.run_bind,Sem.run_pure,Result.andThen_ok,storeVar,(ij ht w).2,hcl];simp[hst]
 simp only[Oper.wp,hrun,Oper.upon];rw[hset]at hS;exact hK _ _ ⟨ε,φ,hS.put (d:=.any) (cG hdst) trivial (fun _ h=>by cases h)⟩
theorem aj.CP{t:TypeId}{x y:Operand}{k m:Nat}{z:Int}(hz:z.toNat<M.length)(h:ev T x=some (.ref r (z.toNat*m)))(hy:ev T y=some (.mr s k))(hh:ai H r=some (.bQ e te s []))(hk:ai H s=some (.store e tr M))(hm:m=1)(ht:lay P t=some none)
  (hr:aj P ops c os (bf T dst .any) ((r,.dh 1 te (((List.range M.length).set z.toNat k).map (D.mr s)))::H) sps T' H'):
  aj P ops c (⟨dst,.store t x y,ty,pos,aft,none⟩::os) T H (xS x (.ref r (z.toNat*m)) y (.mr s k) [(r,.bQ e te s []),(s,.store e tr M)] [(r,.dh 1 te (((List.range M.length).set z.toNat k).map (D.mr s)))] []::sps) T' H':=
 vL (fun ε w S A A' h1 h2=>by
  have:=jG h1 h2
  rwa [List.map_nil,List.append_nil]at this) (by simpa using hz) h hy hh hk hm ht hr
theorem aj.CM{t:TypeId}{x y:Operand}{k m:Nat}{z:Int}{js:List Nat}(hz:z.toNat<js.length)(h:ev T x=some (.ref r (z.toNat*m)))(hy:ev T y=some (.mr s k))(hh:ai H r=some (.dh 1 te (js.map (D.mr s))))(hk:ai H s=some (.store e tr M))(hm:m=1)(ht:lay P t=some none)
  (hr:aj P ops c os (bf T dst .any) ((r,.dh 1 te ((js.set z.toNat k).map (D.mr s)))::H) sps T' H'):
  aj P ops c (⟨dst,.store t x y,ty,pos,aft,none⟩::os) T H (xS x (.ref r (z.toNat*m)) y (.mr s k) [(r,.dh 1 te (js.map (D.mr s))),(s,.store e tr M)] [(r,.dh 1 te ((js.set z.toNat k).map (D.mr s)))] []::sps) T' H':=
 vL (fun _ _ _ _ _ h1 _=>h1) hz h hy hh hk hm ht hr
theorem xu{ε:Env}{w:World}{S:cl}{vs:Array Value}(h:ε s=.agg vs):∀{js:List Nat} {cs:List Value},bX ε w S (js.map (D.mr s)) cs->cs.length=js.length/\∀(i j:Nat) (v:Value),js[i]?=some j->cs[i]?=some v->vs[j]?=some v:=by
 intro js cs hc;refine⟨by rw[aS hc,List.length_map],fun i j v hj hv=>?_⟩;obtain⟨u,hu,_,vs',e1,e2⟩:=gF hc (show(js.map (D.mr s))[i]?=some (D.mr s j)by rw[List.getElem?_map,hj];rfl);rw[h]at e1;injection e1 with e1;subst e1;rw[hv]at hu;injection hu with hu;subst hu;exact e2
theorem Ok.Ah{x:Code}{Q:Exit->Act->World->Prop}{js:List Nat}{M2:List (List α)}(s2:Nat)(hh:ai H r=some (.dh 1 te (js.map (D.mr s))))(hk:ai H s=some (.store e tr M))(hf:ai H s2=none)(hne:Nat.beq r s=false)(hnd:js.Nodup)(hl:M2.length=js.length)(hM:∀(i j:Nat),js[i]?=some j->M2[i]?=M[j]?/\j<M.length)
  (h:Ok P c T ((r,.bQ e te s2 [])::(s2,.store e tr M2)::(s,.dead)::H) x Q):Ok P c T H x Q:=by
 intro a w ⟨ε,φ,hs⟩;have hne':r≠s:=fun e=>by subst e;simp at hne
 obtain⟨vs,G,e1,e2,e3,e4,e5⟩:=hs.h s _ hk;have hrow:jk 1 te (js.map (D.mr s)) ε w (Am.ak c (ai H) φ) (ε r) (φ r):=hs.h r _ hh;have hG:∃cs:List Value,cs.length=js.length/\(∀(i j:Nat) (v:Value),js[i]?=some j->cs[i]?=some v->vs[j]?=some v)/\jk 1 te (bV cs) ε w (Am.ak c (ai H) φ) (ε r) (φ r):=by
  rcases hrow with⟨h0,h1,h2⟩|⟨g,n,cap,cs,rest,h1,h2,h3,h4,h5,h8,h6,h7⟩
  ·have:js=[]:=by simpa using h0
   subst this;exact⟨[],rfl,fun i j v hj=>by simp at hj,.inl ⟨rfl,h1,h2⟩⟩
  ·obtain⟨f1,f2⟩:=xu e1 h7;exact⟨cs,f1,f2,.inr ⟨g,n,cap,cs,rest,h1,h2,h3,h4,h5,h8,by rw[ka,f1,←h6,List.length_map],iN.2 rfl⟩⟩
 obtain⟨cs,f1,f2,f3⟩:=hG;have inj:∀i i' j,js[i]?=some j->js[i']?=some j->i=i':=fun i i' j h1 h2=>by
  have hi:=(List.getElem?_eq_some_iff.1 h1).1;exact(List.getElem?_inj hi hnd).1 (h1.trans h2.symm)
 have hS:=hs.rI (r:=r) (te:=te) (X:=[]) (e:=e) (tr:=tr) (M:=M2) (s2:=s2) [s] (fun q hq=>by
   simp only[List.mem_cons,List.not_mem_nil,or_false]at hq;subst hq;rw[hk];simp) hf (by rw[hh];simp) (by simpa using hne') cs.toArray (fun i=>G (js.getD i 0)) (by rw[hl,←f1];simp)
   (fun k xs v hx hv=>by
    have hkl:k<js.length:=by rw[←hl];exact(List.getElem?_eq_some_iff.1 hx).1
    have hj:js[k]?=some js[k]:=List.getElem?_eq_getElem hkl;have hv2:cs[k]?=some v:=by simpa using hv
    have:=f2 k _ v hj hv2;have hd:js.getD k 0=js[k]:=by simp[List.getD,hj]
    rw[hd];exact e3 _ xs v (by rw[←(hM k _ hj).1];exact hx) this)
   (fun k k' hk1 hk2 hne2 i hi hi'=>by
    rw[hl]at hk1 hk2;have hj:js[k]?=some js[k]:=List.getElem?_eq_getElem hk1;have hj':js[k']?=some js[k']:=List.getElem?_eq_getElem hk2;have hd:js.getD k 0=js[k]:=by simp[List.getD,hj]
    have hd':js.getD k' 0=js[k']:=by simp[List.getD,hj']
    rw[hd]at hi;rw[hd']at hi';exact e4 _ _ (hM k _ hj).2 (hM k' _ hj').2 (fun e=>hne2 (inj k k' _ hj (by rw[hj',e]))) i hi hi')
   (fun k hk1 i hi=>by
    rw[hl]at hk1;have hj:js[k]?=some js[k]:=List.getElem?_eq_getElem hk1;have hd:js.getD k 0=js[k]:=by simp[List.getD,hj]
    rw[hd]at hi;exact⟨s,by simp,(e5 i).2 ⟨_,(hM k _ hj).2,hi⟩⟩)
   (by rw[List.map_nil,List.append_nil];exact f3)
 refine h a w (Sat.ext hS (fun _=>rfl) (fun q=>?_));rw[bu];rfl
theorem Ok.zS{x:Code}{Q:Exit->Act->World->Prop}{i k:Int}{vi vk:List α}(s2:Nat)(hh:ai H r=some (.dh 1 te ((((List.range M.length).set i.toNat k.toNat).set k.toNat i.toNat).map (D.mr s))))(hk:ai H s=some (.store e tr M))(hf:ai H s2=none)(hne:Nat.beq r s=false)(hi:M[i.toNat]?=some vi)(hkk:M[k.toNat]?=some vk)
  (h:Ok P c T ((r,.bQ e te s2 [])::(s2,.store e tr ((M.set i.toNat vk).set k.toNat vi))::(s,.dead)::H) x Q):Ok P c T H x Q:=by
 have h1:=(List.getElem?_eq_some_iff.1 hi).1;have h2:=(List.getElem?_eq_some_iff.1 hkk).1;generalize i.toNat=i at*;generalize k.toNat=k at*;have hjs:∀n j:Nat,(((List.range M.length).set i k).set k i)[n]?=some j↔n<M.length/\j=(if n=k then i else if n=i then k else n):=by
  intro n j;by_cases hn:n<M.length
  ·by_cases e1:n=k
   ·subst e1;rw[List.getElem?_set_self (by simpa using hn)];simp[hn,eq_comm]
   ·rw[List.getElem?_set_ne (Ne.symm e1)];by_cases e2:n=i
    ·subst e2;rw[List.getElem?_set_self (by simpa using hn)];simp[hn,e1,eq_comm]
    ·rw[List.getElem?_set_ne (Ne.symm e2)];simp[hn,e1,e2,eq_comm]
  ·rw[List.getElem?_eq_none (by simp;omega)];simp[hn]
 refine .Ah s2 hh hk hf hne ?_ (by simp) (fun n j hj=>?_) h
 ·rw[List.nodup_iff_pairwise_ne,List.pairwise_iff_getElem];intro a b ha hb hab e;have ha':=(hjs a _).1 (List.getElem?_eq_getElem ha);have hb':=(hjs b _).1 (List.getElem?_eq_getElem hb);rw[ha'.2,hb'.2]at e;by_cases a1:a=k<;>by_cases a2:a=i<;>by_cases a3:b=k<;>by_cases a4:b=i<;>simp_all<;>omega
 ·obtain⟨h3,rfl⟩:=(hjs n j).1 hj;by_cases e1:n=k
  ·subst e1;rw[List.getElem?_set_self (by simpa using h2),if_pos rfl,hi];exact⟨rfl,h1⟩
  ·rw[List.getElem?_set_ne (Ne.symm e1),if_neg e1];by_cases e2:n=i
   ·subst e2;rw[List.getElem?_set_self h1,if_pos rfl,hkk];exact⟨rfl,h2⟩
   ·rw[List.getElem?_set_ne (Ne.symm e2),if_neg e2];exact⟨rfl,h3⟩
end
end Go.Am
namespace Go.Am
open Go.RowKit
theorem rS.bQ{α:Type}{ρ:Nat->Nat}{e:aK α}{te:TypeId}{s:Nat}{X:List (List α)}:rS ρ (.bQ e te (ρ s) X) (.bQ e te s X):=by
 refine⟨fun ε w S b F h=>?_,fun r hr=>?_⟩
 ·obtain⟨vs,e1,_⟩:=id h;have:=pO e1 h;exact sU (ε:=fun r=>ε (ρ r)) e1 (lC this (by rw[cU (cN _) (kn e X)];intro r hr;cases hr) (fun _ hk _=>⟨hk,rfl⟩) (fun _ _=>rfl))
 ·have:r=s:=by simpa [Hp.bQ]using hr
  subst this;simp[Hp.bQ]
theorem pU.mr{ρ:Nat->Nat}{s k:Nat}:pU ρ (.mr (ρ s) k) (.mr s k):=⟨fun _ _ _ _ h=>h,fun r' hr'=>by simp[D.mr]at hr'|-;rw[hr']⟩
section
variable {P:Program} {os:List Oper} {c:Ctx} {T T':List (Nat×D)} {H H':List (Nat×Hp)} {sps:List Spec}
variable {ops:Array Oper} {dst:Option Nat} {ty:TypeId} {pos:String} {aft:Array Edge}
variable {α:Type} {e:aK α} {te tr:TypeId} {r s:Nat} {M X:List (List α)}
theorem wC{ε:Env}{w:World}{S S':cl}{F F':cl}(c_:(Hp.bQ e te s []).p ε w S (ε r) F)(hsto:(Hp.store e tr M).p ε w S (ε s) F')(hm0:0<e.n)(hS:∀k,S k->S' k)(hF:∀k,F k->S' k)(hF':∀k,F' k->S' k):(br (aK.slice e) M).p ε w S' (ε r):=by
 have hrow:=jG c_ hsto;obtain⟨vs,G,e1,e2,e3,e4,e5⟩:=hsto;rw[List.map_nil,List.append_nil]at hrow;have hrow2:jk 1 te (M.map (br e)) ε w S' (ε r) F:=by
  rcases hrow with⟨h0,h1,h2⟩|⟨g,n,cap,cs,rest,h1,h2,h3,h4,h5,h8,h6,h7⟩
  ·have:M.length=0:=by have:=congrArg List.length h0;rwa [bz]at this
   have:M=[]:=List.eq_nil_of_length_eq_zero this;exact .inl ⟨by rw[this];rfl,h1,h2⟩
  ·refine .inr ⟨g,n,cap,cs,rest,h1,h2,h3,h4,h5,h8,by rw[←h6];simp[bz],?_⟩;have hcl:=aS h7;rw[bz]at hcl;have key:∀(N:List (List α)) (us:List Value),us.length=N.length->(∀(k:Nat) (xs:List α) (v:Value),N[k]?=some xs->us[k]?=some v->(br e xs).p ε w S' v)->bX ε w S' (N.map (br e)) us:=by
    intro N
    induction N with
    |nil=>intro us hl _;have:=List.eq_nil_of_length_eq_zero hl;subst this;exact trivial
    |cons x N ih=>
     intro us hl hk'
     cases us with
     |nil=>simp at hl
     |cons u us=>
      exact⟨hk' 0 x u rfl rfl,ih us (by simpa using hl) (fun k xs v hx hv=>hk' (k+1) xs v (by simpa using hx) (by simpa using hv))⟩
   refine key M cs hcl (fun k xs v hx hv=>?_);have hkl:k<M.length:=(List.getElem?_eq_some_iff.1 hx).1;have hv2:vs[k]?=some v:=by
    have:=jF (s:=s) (S:=S) (w:=w) e1 (by rw[e2];exact h7);rw[this]at hv;simpa using hv
   exact j2 (e3 k xs v hx hv2) hm0 hS (fun i hi=>hF' i ((e5 i).2 ⟨k,hkl,hi⟩))
 exact j2 (e:=aK.slice e) (te:=te) (xs:=M) (F:=F) (S:=S') (by show jk 1 te (flat (aK.slice e) M) _ _ _ _ _;rw[ke];exact hrow2) (show 0<1 by decide) (fun _ h=>h) hF
def AV(R:List (Nat×Hp))(d d':D):Prop:=∀(ε:Env) (w:World) (S S':cl) (φ:Nat->cl),(∀q h,ai R q=some h->h.p ε w S (ε q) (φ q))->(∀k,S k->S' k)->(∀q,ai R q≠none->∀k,φ q k->S' k)->∀v,d.p ε w S v->d'.p ε w S' v
def qZ(R:List (Nat×Hp)):List D->List D->Prop
 |[],[]=>True
 |d::l,d'::l'=>AV R d d'/\qZ R l l'
 |_,_=>False
theorem qZ.all{R:List (Nat×Hp)}{ε:Env}{w:World}{S S':cl}{φ:Nat->cl}(h1:∀q h,ai R q=some h->h.p ε w S (ε q) (φ q))(h2:∀k,S k->S' k)(h3:∀q,ai R q≠none->∀k,φ q k->S' k):∀{l l':List D} {vs:List Value},qZ R l l'->bX ε w S l vs->bX ε w S' l' vs
 |[],[],[],_,_=>trivial
 |[],[],_::_,_,h=>h.elim
 |d::l,d'::l',[],_,h=>h.elim
 |d::l,d'::l',v::vs,hs,h=>⟨hs.1 ε w S S' φ h1 h2 h3 v h.1,qZ.all h1 h2 h3 hs.2 h.2⟩
 |[],_::_,_,hs,_=>hs.elim
 |_::_,[],_,hs,_=>hs.elim
theorem AV.bQ{R:List (Nat×Hp)}{d:D}(hd:Le d (.own r))(hr:ai R r=some (.bQ e te s []))(hs:ai R s=some (.store e tr M))(hm:Nat.blt 0 e.n=true):AV R d (br (aK.slice e) M):=fun ε w S S' φ h1 h2 h3 v hv=>by
 have:=(hd.1 _ _ _ _ hv).1;subst this;exact wC (h1 r _ hr) (h1 s _ hs) (by simpa using hm) h2 (h3 r (by rw[hr];simp)) (h3 s (by rw[hs];simp))
def Plain(d:D):Prop:=∀(ε ε':Env) (w w':World) (S S':cl) (v:Value),d.p ε w S v->d.p ε' w' S' v
theorem Plain.int{k:IntKind}{n:Int}:Plain (.int k n):=fun _ _ _ _ _ _ _ h=>h
theorem Plain.bool{b:Bool}:Plain (.bool b):=fun _ _ _ _ _ _ _ h=>h
def pJ:List D->Prop
 |[]=>True
 |d::l=>Plain d/\pJ l
theorem pJ.all:∀{l:List D} {vs:List Value} {ε ε':Env} {w w':World} {S S':cl},pJ l->bX ε w S l vs->bX ε' w' S' l vs
 |[],[],_,_,_,_,_,_,_,_=>trivial
 |_::_,_::_,_,_,_,_,_,_,hp,h=>⟨hp.1 _ _ _ _ _ _ _ h.1,pJ.all hp.2 h.2⟩
 |[],_::_,_,_,_,_,_,_,_,h=>h.elim
 |_::_,[],_,_,_,_,_,_,_,h=>h.elim
theorem Plain.fA{l:List D}(h:pJ l):Plain (.fA l):=fun _ _ _ _ _ _ _ ⟨cs,e,ha⟩=>⟨cs,e,h.all ha⟩
theorem aj.A4{f:FuncId}{xs:List Operand}{ats:Array TypeId}{ds ds0:List D}{d:D}(R:List (Nat×Hp))(hc:bb P f [] ds [] d)(he:tT T xs ds0)(cO:hasAll H R)(hsee:qZ R ds0 ds)(hpl:Plain d)(hnm:d.nm=[])
  (hr:aj P ops c os (bf T dst d) H sps T' H'):
  aj P ops c (⟨dst,.call {callee:=.value (.func f),args:=xs.toArray,argTypes:=ats},ty,pos,aft,none⟩::os) T H ({ins:=(xs.zip ds0).flatMap fun x=>dM x.1 x.2,cO:=R,out:=d,c_:=[],news:=[]}::sps) T' H':=by
 refine .cons (sp:={ins:=(xs.zip ds0).flatMap fun x=>dM x.1 x.2,cO:=R,out:=d,c_:=[],news:=[]}) ?_ (dQ (fl he)) (nK cO) trivial hr;intro hdst T0 H0 hi hin0 _ a w ⟨ε,φ,hs⟩ Q K hK;rw[if_pos (a_ rfl _)];have hx:∀x∈xs.zip ds0,eV T0 (dM x.1 x.2):=cz hi;have hget0:=lZ hin0;have hall0:bX ε w (Am.ak c H0 φ) ds0 (xs.map a.eval):=fI he (fun x h=>(hs.ev (hx x h) (aA (fl he x h)).2).1);have hall:=qZ.all (S':=fun k=>Am.ak c H0 φ k\/∃q,ai R q≠none/\φ q k) (fun q h hq=>hs.h q h (hget0 q h hq)) (fun k hk=>.inl hk) (fun q hq k hk=>.inr ⟨q,hq,hk⟩) hsee hall0;simp only[Oper.wp,jY hc.ok a w,Oper.upon];refine(hc.calls (fun k=>Am.ak c H0 φ k\/∃q,ai R q≠none/\φ q k) w ε φ (xs.map a.eval) (fun r hr=>absurd rfl hr) (fun r r' hr=>absurd rfl hr) (fun r h hr=>by cases hr) hall).mono ?_;rintro e w' ⟨v,ε',φ',rfl,_,hv,_,_,_,hbel⟩;have hb:Below w.heap.size w w':=⟨hbel.os,hbel.tape,hbel.output,hbel.size,fun k hk=>hbel.block k hk (fun⟨r,hr,_⟩=>hr rfl)⟩;have hS:=hs.grow hb;exact hK _ _ ⟨ε,φ,hS.put (d:=d) (cG hdst) (hpl _ _ _ _ _ _ _ hv) (by rw[hnm];intro r hr;cases hr)⟩
end
end Go.Am
namespace Go.Am
open Go.RowKit
theorem pU.nH{ρ:Nat->Nat}{f:FuncId}{l l' m m':List D}(h1:qo ρ l l')(h2:qo ρ m m'):pU ρ (.nH f l m) (.nH f l' m'):=
 ⟨fun _ _ _ _ ⟨vs,us,e,a1,a2⟩=>⟨vs,us,e,h1.all a1,h2.all a2⟩,fun r hr=>by
  rcases List.mem_append.1 hr with h|h
  ·exact List.mem_append.2 (.inl (h1.bF r h))
  ·exact List.mem_append.2 (.inr (h2.bF r h))⟩
section
variable {P:Program} {os:List Oper} {c:Ctx} {T T':List (Nat×D)} {H H':List (Nat×Hp)} {sps:List Spec}
variable {ops:Array Oper} {dst:Option Nat} {ty:TypeId} {pos:String} {aft:Array Edge}
variable {α:Type} {e:aK α} {te tr:TypeId} {r s:Nat} {M X:List (List α)}
theorem Ok.iA{x:Code}{Q:Exit->Act->World->Prop}(t:Nat)(ht:aO T t=some (.own r))(hh:ai H r=some (.bQ e te s []))(hk:ai H s=some (.store e tr M))
  (h:Ok P c ((t,.sl r M.length)::T) H x Q):Ok P c T H x Q:=.zT t ht hh hk h
theorem aj.CB{t te:TypeId}{r r1:Nat}{x:Operand}{bt:Nat}{z:D}(hx:ev T x=some (.own r1))(hm:mj P t=some (te,1,bt,[z]))(hf:ai H r=none)
  (hr:aj P ops c os ((r,.own r)::T) ((r,.dh 1 te [.own r1])::H) sps T' H'):
  aj P ops c (⟨some r,.buildSlice t 1 #[(0,x)],ty,pos,aft,none⟩::os) T H (rws (qs [(0,x,.own r1,[.own r1])]) r (.dh 1 te [.own r1])::sps) T' H':=
 .Df (parts:=[(0,x)]) [.own r1] [(0,x,.own r1,[.own r1])] hm rfl rfl ⟨rfl,rfl,.one rfl,rfl,trivial⟩ (by intro y hy;simp[qs]at hy;subst hy;exact hx) rfl rfl (fun r' hr'=>⟨(x,.own r1),by simp[qs],by simpa [bF]using hr'⟩) hf hr
theorem aj.Cn{α:Type}(e:aK α){t te:TypeId}{r m bt:Nat}{z:List D}(hm:mj P t=some (te,m,bt,z))(hmn:m=e.n)(hf:ai H r=none)(hr:aj P ops c os ((r,.own r)::T) ((r,bm e te [])::H) sps T' H'):
  aj P ops c (⟨some r,.buildSlice t 0 #[],ty,pos,aft,none⟩::os) T H ({ins:=[],cO:=[],out:=.own r,c_:=[(r,bm e te [])],news:=[r]}::sps) T' H':=by
 subst hmn;have h0:=aj.BX (P:=P) (ops:=ops) (c:=c) (os:=[]) (T:=T) (H:=H) (ty:=ty) (pos:=pos) (aft:=aft) hm hf .nil
 cases h0 with
 |cons h1 h2 h3 h4 _=>exact .cons h1 h2 h3 h4 hr
theorem vQ{H0:Nat->Option Hp}{Hi:List (Nat×Hp)}(h:∀r x,ai Hi r=some x->H0 r=some x):bp H0 Hi=H0:=by
 funext r
 simp only[bp]
 cases hq:ai Hi r with
 |none=>rfl
 |some x=>exact(h r x hq).symm
theorem m7.rR{o:Oper}{xs:List (Operand×D)}{Hi:List (Nat×Hp)}{d:D}(h:m7 P ops c o (Bj xs Hi Hi d))(hn:eC Hi Hi=[]):m7 P ops c o {ins:=xs.flatMap fun x=>dM x.1 x.2,cO:=Hi,out:=d,c_:=[],news:=[]}:=by
 intro hd T0 H0 hi cO _ a w hs Q K hK;refine h hd T0 H0 hi cO (show jQ H0 (eC Hi Hi)by rw[hn];exact trivial) a w hs Q K (fun a' w' hs'=>hK a' w' ?_);have:bp H0 Hi=H0:=vQ (lZ cO);show Sat c (fR T0 o.dst d) (bp H0 []) a' w';have hs2:Sat c (fR T0 o.dst d) (bp H0 Hi) a' w':=hs';rw[this]at hs2;rw[sS];exact hs2
theorem aj.ym{f:FuncId}{xs:List Operand}{ats:Array TypeId}{Hi:List (Nat×Hp)}{ds:List D}{d:D}(hc:bb P f Hi ds Hi d)(he:tT T xs ds)(cO:hasAll H Hi)(hn:eC Hi Hi=[])
  (hr:aj P ops c os (bf T dst d) H sps T' H'):
  aj P ops c (⟨dst,.call {callee:=.value (.func f),args:=xs.toArray,argTypes:=ats},ty,pos,aft,none⟩::os) T H ({ins:=(xs.zip ds).flatMap fun x=>dM x.1 x.2,cO:=Hi,out:=d,c_:=[],news:=[]}::sps) T' H':=by
 have h0:=aj.af (P:=P) (ops:=ops) (c:=c) (os:=[]) (T:=T) (H:=H) (dst:=dst) (ty:=ty) (pos:=pos) (aft:=aft) (ats:=ats) hc he cO (by rw[hn];exact trivial) .nil
 cases h0 with
 |cons h1 h2 h3 h4 _=>exact .cons (h1.rR hn) h2 h3 trivial hr
theorem aj.Ak{f:FuncId}{x:Operand}{xs:List Operand}{ats:Array TypeId}{Hi:List (Nat×Hp)}{l m ds:List D}{d:D}(hx:ev T x=some (.nH f l m))(hc:bb P f Hi (l++ds++m) Hi d)(he:tT T xs ds)(cO:hasAll H Hi)(hn:eC Hi Hi=[])
  (hr:aj P ops c os (bf T dst d) H sps T' H'):
  aj P ops c (⟨dst,.call {callee:=.value x,args:=xs.toArray,argTypes:=ats},ty,pos,aft,none⟩::os) T H ({ins:=((x,D.nH f l m)::xs.zip ds).flatMap fun x=>dM x.1 x.2,cO:=Hi,out:=d,c_:=[],news:=[]}::sps) T' H':=by
 have h0:=aj.zW (P:=P) (ops:=ops) (c:=c) (os:=[]) (T:=T) (H:=H) (dst:=dst) (ty:=ty) (pos:=pos) (aft:=aft) (ats:=ats) hx hc he cO (by rw[hn];exact trivial) .nil
 cases h0 with
 |cons h1 h2 h3 h4 _=>exact .cons (h1.rR hn) h2 h3 trivial hr
end
end Go.Am
namespace Go.Am
open Go.RowKit
set_option maxRecDepth 100000
noncomputable section
end
end Go.Am
namespace Go.Am
open Go.RowKit
set_option maxRecDepth 100000
noncomputable section
def kl(a1:List Rat)(a2:Int):Option Bool:=some ((a1.length:Int) !=a2)
theorem sO{a1:List Rat}{a2:Int}{r3:Bool}(h:kl a1 a2=some r3):bb PP 234 [(1,Hp.box 3 ([D.int .i64 a2]))] [br aK.rat a1,D.ref 1 0] [(1,Hp.box 3 ([D.int .i64 a2]))] (D.bool r3):=by
 unfold kl at h;refine .of Go.Proofs.Tryz.func234 rfl (by kernel_rfl) rfl rfl rfl rfl rfl rfl (fun A w0 L b=>?_);show Ok PP _ [(0,br aK.rat a1),(1,D.ref 1 0),(1000001,D.pinned 1 (b 1))] [(1,Hp.box 3 ([D.int .i64 a2]))] _ _;refine .ak (.av rfl<|.nil) rfl ?_;refine .ak (.mv rfl<|.gb rfl bh<|.bH (D.int .i64 a2) rfl rfl iR rfl<|.cm rfl rfl rfl<|.av rfl<|.nil) rfl ?_;cases h;refine .aF (fun _ _ hb=>hb) rfl (.t1 (.tmp rfl)) (.refl _) (.of rfl) (.of rfl)
def d_(a1:List (List Rat))(a2:Int)(v5:Int):Option (St Int (Ex Unit Int)):=(if(decide (v5<(a1.length:Int)))=true then(ix a1 v5).bind fun v11=>(kl v11 a2).bind fun v13=>(if v13=true then some (St.done (Ex.ret v5))else some (St.next (IntKind.i64.wrap (v5+1))))else some (St.done (Ex.cy ())))
def ef(a1:List (List Rat))(a2:Int):Option Int:=((Loop (fun(s:Int)=>d_ a1 a2 s) 0).bind fun o6=>(match o6 with|Ex.cy ()=>some (Ex.cy ())|Ex.ret r16=>some (Ex.ret r16))).bind fun o3=>(match o3 with|Ex.cy ()=>some (-1)|Ex.ret r17=>some r17)
theorem nZ{a1:List (List Rat)}{a2:Int}{r18:Int}(h:ef a1 a2=some r18):bb PP 253 [(610,Hp.box 3 ([D.int .i64 a2]))] [br (aK.slice aK.rat) a1,D.nH 234 [] [D.ref 610 0]] [(610,Hp.box 3 ([D.int .i64 a2]))] (D.int .i64 r18):=by
 unfold ef at h;refine .of Go.Proofs.Tryz.func253 rfl (by kernel_rfl) rfl rfl rfl rfl rfl rfl (fun A w0 L b=>?_);show Ok PP _ [(0,br (aK.slice aK.rat) a1),(1,D.nH 234 [] [D.ref 610 0]),(1000610,D.pinned 610 (b 610))] [(610,Hp.box 3 ([D.int .i64 a2]))] _ _;refine .ak (.av rfl<|.nil) rfl ?_;obtain⟨o3,hp4,h⟩:=bind_some h;refine .du (fun i=>o3=Ex.cy i) (fun(i:Unit)=>[(1000610,D.pinned 610 (b 610))]) (fun(i:Unit)=>[(610,Hp.box 3 ([D.int .i64 a2]))]) ?_ ?_
 ·have ho1:=h;have h:=hp4;refine .ak (.mv rfl<|.gb rfl aZ<|.mv rfl<|.nil) rfl ?_;obtain⟨o6,hl7,h⟩:=bind_some h;have ho2:=h;refine .block (.cY (fun(s:Int)=>[(0,br (aK.slice aK.rat) a1),(1,D.nH 234 [] [D.ref 610 0]),(7,D.int .i64 (a1.length:Int)),(8,D.int .i64 s),(1000610,D.pinned 610 (b 610))]) (fun(s:Int)=>[(610,Hp.box 3 ([D.int .i64 a2]))]) hl7 (.of rfl) (.of rfl) rfl rfl ?_);rintro v5 st8 hb9;have h:d_ a1 a2 v5=some st8:=hb9;unfold d_ at h
  try dsimp only
  refine .ak (.cm rfl rfl rfl<|.nil) rfl ?_;refine .sq ?_;by_cases c10:(decide (v5<(a1.length:Int)))=true
  ·replace h:=ab c10 h;refine .bT rfl c10 ?_;refine .skip (Ok.on ?_);refine .sq ?_;refine .block ?_;refine .ak (.mv rfl<|.av rfl<|.nil) rfl ?_;obtain⟨v11,e12,h⟩:=bind_some h;obtain⟨v13,e14,h⟩:=bind_some h;refine .ak (.mv rfl<|.mv rfl<|.mv rfl<|.dn rfl rfl ao (ag e12).1 (ag e12).2<|.iu rfl aw<|.Ak (Hi:=[(610,Hp.box 3 ([D.int .i64 a2]))]) (d:=D.bool v13) (ds:=[br aK.rat v11]) rfl (.vo (sO e14) (fun r=>match r with|1=>610|r=>r) (fun r=>match r with|610=>1|r=>r) rfl (.r rfl rfl trivial) rfl ⟨.refl rfl,.ref (r:=1),trivial⟩ (.r rfl rfl trivial) rfl (.refl rfl) rfl rfl rfl rfl rfl) ⟨rfl,trivial⟩ ⟨rfl,trivial⟩ rfl<|.nil) rfl ?_;by_cases c15:v13=true
   ·replace h:=ab c15 h;refine .bT rfl c15 ?_;refine .ak (.mv rfl<|.av rfl<|.nil) rfl ?_;refine .aF (Hi:=[(610,Hp.box 3 ([D.int .i64 a2]))]) (Ho:=[(610,Hp.box 3 ([D.int .i64 a2]))]) (b:=b) (fn:=Go.Proofs.Tryz.f253) (d:=D.int .i64 v5) (fun _ _ hb=>by exact⟨_,(sj h),fun e=>by subst e;have h:=ho2;cases h;have h:=ho1;cases h;exact hb⟩) rfl (.t1 (.tmp rfl)) (.refl _) (.of rfl) (.of rfl)
   ·replace h:=ae c15 h;refine .cC rfl c15 ?_;refine .skip (Ok.on ?_);refine .region (.ar rfl rfl rfl<|.mv rfl<|.nil) rfl (fun _ _ hs=>⟨(IntKind.i64.wrap (v5+1)),(sj h),hs.sub (.of rfl) (.of rfl) rfl rfl⟩)
  ·replace h:=ae c10 h;refine .cC rfl c10 ?_;refine .exit (fun a w hs=>⟨_,(sj h),fun e=>by subst e;have h:=ho2;exact bD (⟨(),(sj h),hs.sub (.of rfl) (.of rfl) rfl rfl⟩)⟩)
 ·rintro⟨⟩ rfl
  try dsimp only
  refine .ak (.av rfl<|.nil) rfl ?_;cases h;refine .aF (fun _ _ hb=>hb) rfl (.t1 (.tmp rfl)) (.refl _) (.of rfl) (.of rfl)
def dk(a1:List (List Rat))(a2:Int):Option Bool:=(ef a1 a2).bind fun v3=>some (decide (v3>=0))
theorem l6{a1:List (List Rat)}{a2:Int}{r5:Bool}(h:dk a1 a2=some r5):bb PP 233 [(610,Hp.box 3 ([D.int .i64 a2]))] [br (aK.slice aK.rat) a1,D.nH 234 [] [D.ref 610 0]] [(610,Hp.box 3 ([D.int .i64 a2]))] (D.bool r5):=by
 unfold dk at h;refine .of Go.Proofs.Tryz.func233 rfl (by kernel_rfl) rfl rfl rfl rfl rfl rfl (fun A w0 L b=>?_);show Ok PP _ [(0,br (aK.slice aK.rat) a1),(1,D.nH 234 [] [D.ref 610 0]),(1000610,D.pinned 610 (b 610))] [(610,Hp.box 3 ([D.int .i64 a2]))] _ _;refine .ak (.av rfl<|.nil) rfl ?_;obtain⟨v3,e4,h⟩:=bind_some h;refine .ak (.mv rfl<|.mv rfl<|.ym (Hi:=[(610,Hp.box 3 ([D.int .i64 a2]))]) (d:=D.int .i64 v3) (ds:=[br (aK.slice aK.rat) a1,D.nH 234 [] [D.ref 610 0]]) (.vo (nZ e4) (fun r=>match r with|r=>r) (fun r=>match r with|r=>r) rfl (.r rfl rfl trivial) rfl ⟨.refl rfl,.nH trivial ⟨.ref (r:=610),trivial⟩,trivial⟩ (.r rfl rfl trivial) rfl (.refl rfl) rfl rfl rfl rfl rfl) ⟨rfl,rfl,trivial⟩ ⟨rfl,trivial⟩ rfl<|.cm rfl rfl rfl<|.av rfl<|.nil) rfl ?_;cases h;refine .aF (fun _ _ hb=>hb) rfl (.t1 (.tmp rfl)) (.refl _) (.of rfl) (.of rfl)
def eN(a1:List (List Rat)):Option (Int×Int×Bool):=(if((a1.length:Int)==0)=true then some (0,0,true)else(ix a1 0).bind fun v3=>(dk a1 (v3.length:Int)).bind fun v5=>some ((a1.length:Int),(v3.length:Int),(!v5)))
theorem jl{a1:List (List Rat)}{r7:Int}{r8:Int}{r9:Bool}(h:eN a1=some (r7,r8,r9)):bb PP 194 [] [br (aK.slice aK.rat) a1] [] (D.fA [D.int .i64 r7,D.int .i64 r8,D.bool r9]):=by
 unfold eN at h;refine .of Go.Proofs.Tryz.func194 rfl (by kernel_rfl) rfl rfl rfl rfl rfl rfl (fun A w0 L b=>?_);show Ok PP _ [(0,br (aK.slice aK.rat) a1)] [] _ _;refine .ak (.av rfl<|.av rfl<|.av rfl<|.nil) rfl ?_;refine .sq ?_;refine .ak (.mv rfl<|.gb rfl aZ<|.cm rfl rfl rfl<|.nil) rfl ?_;by_cases c2:((a1.length:Int)==0)=true
 ·replace h:=ab c2 h;refine .bT rfl c2 ?_;refine .ak (.av rfl<|.av rfl<|.av rfl<|.nil) rfl ?_;cases h;refine .aF (fun _ _ hb=>hb) rfl (.cons (.tmp rfl) (.cons (.tmp rfl) (.t1 (.tmp rfl)))) (.refl _) trivial trivial
 ·replace h:=ae c2 h;refine .cC rfl c2 ?_;refine .skip (Ok.on ?_);obtain⟨v3,e4,h⟩:=bind_some h;refine .ak (.mv rfl<|.dn rfl rfl ao (ag e4).1 (ag e4).2<|.iu rfl aw<|.gb rfl bh<|.eZ ([D.int .i64 0]) zX ⟨.refl _,trivial⟩ rfl<|.zR ([D.int .i64 (v3.length:Int)]) rfl rfl rfl iR rfl rfl rfl<|.nil) rfl ?_;obtain⟨v5,e6,h⟩:=bind_some h;refine .cn bP (.mv rfl<|.gb rfl aZ<|.bH (D.int .i64 (v3.length:Int)) rfl rfl iR rfl<|.mv rfl<|.Cl (fs:=[]) (cs:=[.tmp 5]) (l:=[]) (m:=[D.ref 5 0]) trivial ⟨rfl,trivial⟩<|.ym (Hi:=[(5,Hp.box 3 ([D.int .i64 (v3.length:Int)]))]) (d:=D.bool v5) (ds:=[br (aK.slice aK.rat) a1,D.nH 234 [] [D.ref 5 0]]) (.vo (l6 e6) (fun r=>match r with|610=>5|r=>r) (fun r=>match r with|5=>610|r=>r) rfl (.r rfl rfl trivial) rfl ⟨.refl rfl,.nH trivial ⟨.ref (r:=610),trivial⟩,trivial⟩ (.r rfl rfl trivial) rfl (.refl rfl) rfl rfl rfl rfl rfl) ⟨rfl,rfl,trivial⟩ ⟨rfl,trivial⟩ rfl<|.not rfl<|.av rfl<|.av rfl<|.av rfl<|.nil) rfl (by kernel_rfl) ?_;cases h;refine .aF (fun _ _ hb=>hb) rfl (.cons (.tmp rfl) (.cons (.tmp rfl) (.t1 (.tmp rfl)))) (.refl _) trivial trivial
end
end Go.Am
namespace Go.Am
open Go.RowKit
set_option maxRecDepth 100000
noncomputable section
end
end Go.Am
namespace Go.Am
open Go.RowKit
section
variable {P:Program} {os:List Oper} {c:Ctx} {T T':List (Nat×D)} {H H':List (Nat×Hp)} {sps:List Spec}
variable {ops:Array Oper} {dst:Option Nat} {ty:TypeId} {pos:String} {aft:Array Edge}
variable {α:Type} {e:aK α} {te tr:TypeId} {r s:Nat} {M X:List (List α)}
theorem aj.pP{t:TypeId}{x y:Operand}{m:Nat}{k:IntKind}{z:Int}(hx:ev T x=some (.own r))(hy:ev T y=some (.int k z))(hh:ai H r=some (.bQ e te s []))(hk:ai H s=some (.store e tr M))(ht:sle P t=some m)(h0:0<=z)(h1:z<M.length)
  (hr:aj P ops c os (bf T dst (.ref r (z.toNat*m))) H sps T' H'):
  aj P ops c (⟨dst,.indexAddr t x y,ty,pos,aft,none⟩::os) T H (zY [(x,.own r),(y,.int k z)] r (.bQ e te s []) s (.store e tr M) (.ref r (z.toNat*m))::sps) T' H':=
 .AT rfl (two hx hy) hh hk (fun r' hr'=>.inl (by simpa [D.ref]using hr')) (fun ε w S a F F' ha h1' h2'=>by
  have h2:a.eval x=ε r:=(ha (x,.own r) (by simp)).1;have h3:a.eval y=.int k z:=ha (y,.int k z) (by simp);obtain⟨A,cap,hb,hA⟩:=oO (n:=M.length) (by decide) (by simp[bz]) (jG h1' h2');have hA':=hA (by omega);subst hA';refine⟨.pointer (some ⟨iv (ε r),z.toNat*m,none⟩),?_,rfl⟩;generalize iv (ε r)=g at hb;simp only[execOp,h2,hb,h3,Sem.run_bind,f_ ht g 0 M.length cap k z h0 h1 w,Result.andThen_ok,Nat.zero_add]
  rfl) hr
theorem aj.AZ{t:TypeId}{x:Operand}(hx:ev T x=some (.own r))(hh:ai H r=some (.bQ e te s []))(hk:ai H s=some (.store e tr M))(ht:isSlice P t=true)(hr:aj P ops c os (bf T dst (.int .i64 M.length)) H sps T' H'):
  aj P ops c (⟨dst,.call {callee:=.builtin .len,args:=#[x],argTypes:=#[t]},ty,pos,aft,none⟩::os) T H (zY [(x,.own r)] r (.bQ e te s []) s (.store e tr M) (.int .i64 M.length)::sps) T' H':=
 .AT rfl (by simpa using hx) hh hk (fun r' hr'=>by cases hr') (fun ε w S a F F' ha h1' h2'=>by
  have h2:a.eval x=ε r:=(ha (x,.own r) (by simp)).1;obtain⟨A,cap,hb,_⟩:=oO (n:=M.length) (by decide) (by simp[bz]) (jG h1' h2');exact⟨_,gZ a w (by rw[h2,hb];exact mQ ht _ _ cap w),rfl⟩) hr
theorem vw{q r:Nat}{x:Hp}{H:List (Nat×Hp)}(h:Nat.beq q r=false):ai ((r,x)::H) q=ai H q:=by
 show(match Nat.beq q r with|true=>some x|false=>ai H q)=ai H q;rw[h]
theorem Ok.B7{x:Code}{Q:Exit->Act->World->Prop}(r s s2:Nat)(hh:ai H r=some (.bQ e te s []))(hk:ai H s=some (.store e tr M))(hf:ai H s2=none)(hne:Nat.beq r s=false)
  (h:Ok P c T ((r,.bQ e te s2 [])::(s2,.store e tr M)::(s,.dead)::H) x Q):Ok P c T H x Q:=by
 intro a w ⟨ε,φ,hs⟩;have hrow:=jG (hs.h r _ hh) (hs.h s _ hk);rw[List.map_nil,List.append_nil]at hrow;have hT:=hs.tell (y:=.dh 1 te ((List.range M.length).map (D.mr s))) hh hrow (fun q hq=>by rw[xV hq,hk];simp);have hT':Sat c (aO T) (ai ((r,.dh 1 te ((List.range M.length).map (D.mr s)))::H)) a w:=Sat.ext ⟨ε,φ,hT⟩ (fun _=>rfl) (fun q=>by rw[bu];rfl);have hrs:Nat.beq s r=false:=by
  cases hb:Nat.beq s r with
  |false=>rfl
  |true=>rw[Nat.eq_of_beq_eq_true hb]at hne;simp at hne
 have hr2:Nat.beq s2 r=false:=by
  cases hb:Nat.beq s2 r with
  |false=>rfl
  |true=>rw[Nat.eq_of_beq_eq_true hb]at hf;rw[hf]at hh;cases hh
 refine Ok.Ah (H:=(r,.dh 1 te ((List.range M.length).map (D.mr s)))::H) (r:=r) (s:=s) (te:=te) (js:=List.range M.length) (e:=e) (tr:=tr) (M:=M) (M2:=M) s2 (by simp[ai]) (by rw[vw hrs];exact hk) (by rw[vw hr2];exact hf) hne List.nodup_range (by simp) (fun i j hj=>?_) (fun a w hs=>h a w (Sat.ext hs (fun _=>rfl) (fun q=>?_))) a w hT'
 ·have hi:=(List.getElem?_eq_some_iff.1 hj).1;simp only[List.length_range]at hi;rw[List.getElem?_range hi]at hj;injection hj with hj;subst hj;exact⟨rfl,hi⟩
 ·simp only[ai];cases Nat.beq q r<;>cases Nat.beq q s2<;>cases Nat.beq q s<;>rfl
theorem aj.Ce{t:TypeId}{z:Int}{m:Nat}{x:Operand}{xs:List α}(hz:z=(M.length:Int))(hX:X[0]?=some xs)(h:ev T x=some (.ref r (z.toNat*m)))(hh:ai H r=some (.bQ e te s X))(hk:ai H s=some (.store e tr M))(hm:m=1)(ht:lay P t=some none)
  (hr:aj P ops c os (bf T dst (br e xs)) H sps T' H'):aj P ops c (⟨dst,.load t x,ty,pos,aft,none⟩::os) T H (zY [(x,.ref r (z.toNat*m))] r (.bQ e te s X) s (.store e tr M) (br e xs)::sps) T' H':=
 .De (by omega) (by rw[show z.toNat-M.length=0 by omega];exact hX) h hh hk hm ht hr
theorem aj.BL{t:TypeId}{x y:Operand}{r1 s2 m:Nat}{z:Int}{x0 xs:List α}(hz:z=(M.length:Int))(hX:X[0]?=some x0)(h:ev T x=some (.ref r (z.toNat*m)))(hy:ev T y=some (.own r1))(hh:ai H r=some (.bQ e te s X))(hk:ai H s=some (.store e tr M))(h1:ai H r1=some (bm e tr xs))(hf:ai H s2=none)
  (hne:r≠s/\r≠r1/\s≠r1)(hm:m=1)(ht:lay P t=some none)
  (hr:aj P ops c os (bf T dst .any) ((r,.bQ e te s2 X.tail)::(s2,.store e tr (M++[xs]))::(s,.dead)::(r1,.dead)::H) sps T' H'):
  aj P ops c (⟨dst,.store t x y,ty,pos,aft,none⟩::os) T H (xS x (.ref r (z.toNat*m)) y (.own r1) [(r,.bQ e te s X),(s,.store e tr M),(r1,bm e tr xs)] [(r,.bQ e te s2 X.tail),(s2,.store e tr (M++[xs])),(s,.dead),(r1,.dead)] [s2]::sps) T' H':=by
 cases X with
 |nil=>simp at hX
 |cons y0 X=>exact .Cp (x0:=y0) (by omega) h hy hh hk h1 hf hne hm ht hr
end
end Go.Am
namespace Go.Am
open Go.RowKit
section
variable {P:Program} {os:List Oper} {c:Ctx} {T T':List (Nat×D)} {H H':List (Nat×Hp)} {sps:List Spec}
variable {ops:Array Oper} {dst:Option Nat} {ty:TypeId} {pos:String} {aft:Array Edge}
end
end Go.Am
namespace Go.Am
open Go.RowKit
set_option maxRecDepth 100000
noncomputable section
end
end Go.Am
namespace Go.Am
open Go.RowKit
section
variable {P:Program} {os:List Oper} {c:Ctx} {T T':List (Nat×D)} {H H':List (Nat×Hp)} {sps:List Spec}
variable {ops:Array Oper} {dst:Option Nat} {ty:TypeId} {pos:String} {aft:Array Edge}
theorem aj.Ct{t te:TypeId}{x y:Operand}{r m n:Nat}{l:List D}{k:IntKind}{z:Int}(hx:ev T x=some (.own r))(hy:ev T y=some (.int k z))(hh:ai H r=some (.dh 1 te l))(hl:l.length=n)(ht:sle P t=some m)(h0:0<=z)(h1:z<n)
  (hr:aj P ops c os (bf T dst (.ref r (z.toNat*m))) H sps T' H'):
  aj P ops c (⟨dst,.indexAddr t x y,ty,pos,aft,none⟩::os) T H (tS [(x,.own r),(y,.int k z)] r (.dh 1 te l) (.ref r (z.toNat*m))::sps) T' H':=
 .ask rfl (two hx hy) hh (fun r' hr'=>.inl (by simpa [D.ref]using hr')) (fun ε w S a F ha hp=>by
  have h2:a.eval x=ε r:=(ha (x,.own r) (by simp)).1;have h3:a.eval y=.int k z:=ha (y,.int k z) (by simp);obtain⟨A,cap,hb,hA⟩:=oO (n:=n) (by decide) (by omega) (show jk 1 te l ε w S (ε r) F from hp);have hA':=hA (by omega);subst hA';refine⟨.pointer (some ⟨iv (ε r),z.toNat*m,none⟩),?_,rfl⟩;generalize iv (ε r)=g at hb;simp only[execOp,h2,hb,h3,Sem.run_bind,f_ ht g 0 n cap k z h0 h1 w,Result.andThen_ok,Nat.zero_add]
  rfl) hr
end
end Go.Am
namespace Go.Am
open Go.RowKit
theorem ma{z:Array Value}(h:∀u∈z.toList,u.oneCell'=true)(n:Nat):∀u∈(Builtin.zeroCells z n).toList,u.oneCell'=true:=by
 intro u hu;unfold Builtin.zeroCells at hu;rw[Array.toList_map]at hu;obtain⟨j,hj,rfl⟩:=List.mem_map.1 hu;have hj':j<n*z.size:=by simpa using hj
 have hz:0<z.size:=Nat.pos_of_ne_zero fun e=>by rw[e]at hj';simp at hj'
 have hlt:j%z.size<z.size:=Nat.mod_lt _ hz;rw[getElem!_pos z _ hlt];exact h _ (by simp)
theorem vP{P:Program}(w:World)(t tx ty e:TypeId)(i:TypeInfo)(zv:Value)(k:IntKind)(ht:P.underlying t=some (.slice e))(htx:P.underlying tx=some (.int k))(hi:P.info? e=some i)(hz:i.zero=some zv)(hzs:zv.cells.size=i.size)(h1:∀u∈zv.cells.toList,u.oneCell'=true)(hm0:0<i.size)
  (n:Nat)(hn:(n:Int)<=9223372036854775807)(hb:n*i.bytes<=281474976710656):
  (n=0->(Builtin.append_ #[t,tx] ty #[.slice none 0 0,.int .i64 n]).run P w=.ok (.slice none 0 0) w)/\
  (∀g n' cap (cur:Array Value),w.heap[g]?=some (.cells cur e (0,0))->n'+n<=cap->n'*i.size+n*i.size<=cur.size->(Builtin.append_ #[t,tx] ty #[.slice (some ⟨g,0,none⟩) n' cap,.int .i64 n]).run P w=.ok (.slice (some ⟨g,0,none⟩) (n'+n) cap) (w.setRow g (cur.toList.take (n'*i.size)++(Builtin.zeroCells zv.cells n).toList++cur.toList.drop (n'*i.size+n*i.size)).toArray))/\
  (∀base sLen sCap (olds:List Value),(Builtin.firstCells i.size sLen (.slice base sLen sCap)).run P w.drew=.ok olds.toArray w.drew->sCap<sLen+n->((sLen+n:Nat):Int)<=9223372036854775807->Builtin.nextslicecap (sLen+n) sCap*i.bytes<=281474976710656->
   (Builtin.append_ #[t,tx] ty #[.slice base sLen sCap,.int .i64 n]).run P w=.ok (.slice (some ⟨w.heap.size,0,none⟩) (sLen+n) (grownCap w (sLen+n) sCap e)) (w.drew.alloc (.cells ((olds++(Builtin.zeroCells zv.cells n).toList).toArray++Builtin.zeroCells zv.cells (grownCap w (sLen+n) sCap e-(sLen+n))) e))):=by
 have hw:IntKind.i64.wrap (n:Int)=n:=by rw[IntKind.wrap_i64];omega
 have hneg:¬((n:Int)<0):=by omega
 have h48i:¬(281474976710656<(n:Int)*(i.bytes:Int)):=by
  rw[←Int.natCast_mul];omega
 have hzl:(Builtin.zeroCells zv.cells n).toList.length=n*i.size:=by rw[Array.length_toList,size_zeroCells,hzs]
 have hz1:∀u∈(Builtin.zeroCells zv.cells n).toList,u.oneCell'=true:=ma h1 n;refine⟨fun h0=>?_,fun g n' cap cur hg hroom hfit=>?_,fun base sLen sCap olds hold hg h63 hfit=>?_⟩
 ·subst h0;have hw0:IntKind.i64.wrap 0=0:=by decide
  simp[Builtin.append_,run_underlying ht,run_underlying htx,sizeOf,typeInfo,hi,asInt,asIntOf,hw0]
 ·have hst:=run_storeCells_at P g (n'*i.size) e (Builtin.zeroCells zv.cells n).toList 0 cur w hg (by rw[hzl];simpa using hfit) hz1;simp only[Nat.add_zero,hzl]at hst;by_cases h0:n=0
  ·subst h0;have hs0:(Builtin.zeroCells zv.cells 0).toList=[]:=List.eq_nil_of_length_eq_zero (by simpa using hzl);rw[hs0]at hst|-;have hr:(n'<=cap):=hroom;have hw0:IntKind.i64.wrap 0=0:=by decide
   simp[Builtin.append_,run_underlying ht,run_underlying htx,sizeOf,typeInfo,hi,asInt,asIntOf,hw0,hr,Addr.add_lit]at hst|-;rw[hst];rfl
  ·have hnm:¬(n*i.size=0):=Nat.ne_of_gt (Nat.mul_pos (by omega) hm0);simp[Builtin.append_,run_underlying ht,run_underlying htx,sizeOf,typeInfo,zeroValue,hi,hz,asInt,asIntOf,hw,hneg,h48i,hroom,Addr.add_lit,hnm]at hst|-;rw[hst];rfl
 ·have hn0:n≠0\/n=0:=by omega
  have hnr:¬(sLen+n<=sCap):=by omega
  have h63':¬(9223372036854775807<((sLen:Int)+(n:Int))):=by omega
  have h48':¬(281474976710656<Builtin.nextslicecap (sLen+n) sCap*i.bytes):=by omega
  by_cases h0:n=0
  ·subst h0;have hw0:IntKind.i64.wrap 0=0:=by decide
   have hs0:(Builtin.zeroCells zv.cells 0)=#[]:=by apply Array.eq_empty_of_size_eq_zero;simpa using hzl
   simp[Builtin.append_,run_underlying ht,run_underlying htx,sizeOf,typeInfo,zeroValue,hi,hz,asInt,asIntOf,hw0,Question.forced,hold,newRow,grownCap,hs0]at hnr h63' h48'|-;rw[if_neg (by omega),if_neg (by omega),if_neg (by omega)]
  ·have hnm:¬(n*i.size=0):=Nat.ne_of_gt (Nat.mul_pos (by omega) hm0);simp[Builtin.append_,run_underlying ht,run_underlying htx,sizeOf,typeInfo,zeroValue,hi,hz,asInt,asIntOf,hw,hneg,h48i,hnr,h63',h48',Question.forced,hold,newRow,grownCap,hnm]
   congr 2
   apply Array.ext';simp[List.append_assoc]
section
variable {P:Program} {os:List Oper} {c:Ctx} {T T':List (Nat×D)} {H H':List (Nat×Hp)} {sps:List Spec}
variable {ops:Array Oper} {dst:Option Nat} {ty:TypeId} {pos:String} {aft:Array Edge}
theorem sY{t tx:TypeId}{x y:Operand}{r:Nat}(a:Act)(w w':World){v:Value}(h:(Builtin.append_ #[t,tx] ty #[a.eval x,a.eval y]).run P w=.ok v w'):
  (execOp a.eval ⟨some r,.call {callee:=.builtin .append,args:=#[x,y],argTypes:=#[t,tx]},ty,pos,aft,none⟩).run P w=.ok (.value v) w':=by
 simp only[execOp,resolve,Sem.run_bind,Sem.run_pure,Result.andThen_ok,invoke,builtin,List.map_toArray,List.map_cons,List.map_nil,h]
theorem cf.C_{α:Type}{e:aK α}{T0:Nat->Option D}{H0:Nat->Option Hp}{a:Act}{w:World}{ε:Env}{φ:Nat->cl}(hs:cf c T0 H0 a w ε φ){t tx te:TypeId}{r1 r bt:Nat}{xs:List α}{zl:List D}{k:Nat}(a0:α)(hh:H0 r1=some (bm e te xs))(hm:mj P t=some (te,e.n,bt,zl))(hk:P.underlying tx=some (.int .i64))(hz:oz zl (e.c a0))
  (hb:(xs.length+k)*bt<=140737488355328)(hmax:xs.length+k<=9223372036854775807)(hf:H0 r=none):
  ∃v' w' ε' φ',(Builtin.append_ #[t,tx] ty #[ε r1,.int .i64 k]).run P w=.ok v' w'/\cf c T0 (bp H0 [(r1,.dead),(r,bm e te (xs++List.replicate k a0))]) a w' ε' φ'/\ε' r=v'/\v'.oneCell'=true:=by
 obtain⟨i,v,hu,hinf,hzv,hsz,hbz,ez,hv1,hvs,hm0⟩:=fP hm;have hbk:k*i.bytes<=281474976710656:=by
  rw[hbz];have:k*bt<=(xs.length+k)*bt:=Nat.mul_le_mul_right _ (by omega);omega
 obtain⟨z1,z2,z3⟩:=vP (P:=P) w t tx ty te i v .i64 hu hk hinf hzv (by rw[hvs,hsz]) hv1 (by omega) k (by omega) hbk;have hzl:(Builtin.zeroCells v.cells k).toList.length=k*e.n:=by rw[Array.length_toList,size_zeroCells,hvs]
 have hall:bX ε w (Am.ak c H0 φ) (flat e (List.replicate k a0)) (Builtin.zeroCells v.cells k).toList:=by
  have e1:Builtin.zeroCells v.cells k=madeCells v.cells (k*e.n):=by rw[←hvs];rfl
  rw[e1,eX hvs hm0 k,pL e a0 k];refine(hz.rep k).all ?_;rw[ez];exact fC (iz _ _ _ _) k
 obtain⟨v',w',ε',φ',hrun,hS,ev',ho⟩:=hs.Br (P:=P) (ty:=ty) (tx:=tx) (x:=.int .i64 k) hm (r:=r) (n2:=k) (hl:=eO e (xs++List.replicate k a0)) hh hf (cb e xs) (by rw[cb,List.length_replicate]) (eO e _) (kK e xs _).symm hzl (ma hv1 k) hall
  z1 (fun g n' cap cur hg hroom hfit=>by have:=z2 g n' cap cur hg hroom (by rw[hsz];rw[hzl]at hfit;exact hfit);rw[hsz]at this;rw[hzl];exact this)
  (fun i' zv' e1 e2 e3 e4 e5 base sLen sCap olds ho hc h63 hfit=>by
   have e6:i'=i:=by rw[hinf]at e2;injection e2 with e2;exact e2.symm
   subst e6;have e7:zv'=v:=by rw[hzv]at e3;injection e3 with e3;exact e3.symm
   subst e7;exact z3 base sLen sCap olds ho hc h63 (by rw[hbz];exact hfit)) hb hmax
 exact⟨v',w',ε',φ',hrun,hS,ev',ho.1⟩
end
end Go.Am
namespace Go.Am
open Go.RowKit
set_option maxRecDepth 100000
noncomputable section
end
end Go.Am
namespace Go.Am
open Go.RowKit
set_option maxRecDepth 100000
def l4{α:Type}(xs:List α):Option (List α):=bC (xs.length<=1000000000) (some xs)
theorem tl{xs r:List Rat}(h:l4 xs=some r):wK PP 204 [br aK.rat xs] aK.rat.n 28 (flat aK.rat r):=by
 obtain⟨ha,h⟩:=aG h;cases h;refine .of (hl:=eO _ _) Go.Proofs.Tryz.func204 rfl (by kernel_rfl) rfl rfl (fun A w0=>?_);refine .ak (.av rfl<|.nil) rfl (.sq ?_);refine .ak (.mv rfl<|.Ck bh rfl rfl<|.nil) rfl ?_;refine .cQ rfl (fun h=>?_) (.skip (Ok.on ?_))
 ·have ha0:xs=[]:=List.eq_nil_of_length_eq_zero h;subst ha0;refine .ak (.av rfl<|.nil) rfl ?_;refine .sM 2 2 3 28 rfl rfl ?_;exact .wm (fun _ _ h=>h) rfl rfl rfl
 ·refine .ak (.BX ck rfl<|.mv rfl<|.B6 (n1:=0) rfl rfl rfl ck rfl (by omega) (by omega) rfl<|.av rfl<|.nil) rfl ?_;exact .wm (fun _ _ h=>h) rfl rfl rfl
theorem yd{xs r:List (List Rat)}(h:l4 xs=some r):wK PP 235 [br (aK.slice aK.rat) xs] (aK.slice aK.rat).n 68 (flat (aK.slice aK.rat) r):=by
 obtain⟨ha,h⟩:=aG h;cases h;refine .of (hl:=eO _ _) Go.Proofs.Tryz.func235 rfl (by kernel_rfl) rfl rfl (fun A w0=>?_);refine .ak (.av rfl<|.nil) rfl (.sq ?_);refine .ak (.mv rfl<|.Ck aZ rfl rfl<|.nil) rfl ?_;refine .cQ rfl (fun h=>?_) (.skip (Ok.on ?_))
 ·have ha0:xs=[]:=List.eq_nil_of_length_eq_zero h;subst ha0;refine .ak (.av rfl<|.nil) rfl ?_;refine .sM 2 2 1 68 rfl rfl ?_;exact .wm (fun _ _ h=>h) rfl rfl rfl
 ·refine .ak (.BX dm rfl<|.mv rfl<|.B6 (n1:=0) rfl rfl rfl dm rfl (by omega) (by omega) rfl<|.av rfl<|.nil) rfl ?_;exact .wm (fun _ _ h=>h) rfl rfl rfl
end Go.Am
