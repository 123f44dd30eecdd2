/- Part 3 of 7 of what the laws of layer 1 share: contracts of functions of the program, each for every argument of its description; no condition beyond it. -/
import Derived.Test.YtgnepgenefcnpaaGreatDoorBkB
import Derived.Shelf.Strings.SlTrimAscii
import Derived.Shelf.Strings.Trim
import Derived.Shelf.Small.Strs
import Derived.Shelf.Strings.Search1
import Derived.Shelf.Strings.Search2
import Derived.Shelf.Strings.Cut
import Derived.Test.YtgnepgenefcnpaaGreatDoorProg
import Derived.RangeFuncOwn
set_option linter.unusedVariables false
set_option linter.unusedSimpArgs false
namespace Go.Am
open Go.RowKit
set_option maxRecDepth 100000
noncomputable section
def j1(v2:List Int):Option (St (List Int) (List Int)):=(if(decide ((v2.length:Int)>0))=true then(ix v2 (IntKind.i64.wrap ((v2.length:Int)-1))).bind fun v8=>(if(v8==0)=true then bO ((0:Int)<=(IntKind.i64.wrap ((v2.length:Int)-1))/\((IntKind.i64.wrap ((v2.length:Int)-1)):Int)<=(v2.length:Int)) (some (St.next (List.take (IntKind.i64.wrap ((v2.length:Int)-1)).toNat v2)))else some (St.done v2))else some (St.done v2))
def iY(a1:List Int):Option (List Int):=(Loop (fun(s:(List Int))=>j1 s) a1).bind fun v12=>some v12
theorem qE{a1:List Int}{r13:List Int}(h:iY a1=some r13):aW PP 248 [] [an (ak.int .i64) a1] [] (an (ak.int .i64) r13):=by
 unfold iY at h;refine .of Go.Proofs.Tryz.func248 rfl (by kernel_rfl) rfl rfl rfl rfl rfl rfl (fun A w0 L b=>?_);show Ok PP _ [(0,an (ak.int .i64) a1)] [] _ _;refine .al (.ao rfl<|.nil) rfl ?_;obtain⟨v12,hl4,h⟩:=bind_some h;refine .cz (fun i=>v12=i) (fun(i:(List Int))=>[(0,an (ak.int .i64) i)]) (fun(i:(List Int))=>[]) ?_ ?_
 ·have ho1:=h;refine .block (.cc (fun(s:(List Int))=>[(0,an (ak.int .i64) s)]) (fun(s:(List Int))=>[]) hl4 (.of rfl) trivial rfl rfl ?_);rintro v2 st5 hb6;have h:j1 v2=some st5:=hb6;unfold j1 at h
  try dsimp only
  refine .sq ?_;by_cases c7:(decide ((v2.length:Int)>0))=true
  ·replace h:=ab c7 h;obtain⟨v8,e9,h⟩:=bind_some h;refine .al (.mv rfl<|.fU rfl bI<|.cm rfl rfl rfl<|.mv rfl<|.gy c7<|.mv rfl<|.gy c7<|.mv rfl<|.gy c7<|.fU rfl bI<|.gy c7<|.ar rfl rfl rfl<|.gy c7<|.kX rfl rfl dI (ag e9).1 (ag e9).2<|.gy c7<|.iJ rfl dw<|.gy c7<|.cm rfl rfl rfl<|.bm rfl c7 rfl<|.nil) rfl ?_;by_cases c10:(v8==0)=true
   ·replace h:=ab c10 h;refine .cq rfl c10 ?_;refine .skip (Ok.on ?_);refine .block ?_;obtain⟨k11,h⟩:=ax h;refine .region (.mv rfl<|.mv rfl<|.fU rfl bI<|.ar rfl rfl rfl<|.Iv rfl rfl dI k11.1 k11.2<|.ao rfl<|.nil) rfl (fun _ _ hs=>⟨(List.take (IntKind.i64.wrap ((v2.length:Int)-1)).toNat v2),(sj h),hs.sub (.of rfl) trivial rfl rfl⟩)
   ·replace h:=ae c10 h;refine .cA rfl c10 ?_;refine .exit (fun _ _ hs=>⟨_,(sj h),fun e=>⟨v2,e.symm,hs.sub (.of rfl) trivial rfl rfl⟩⟩)
  ·replace h:=ae c7 h;refine .al (.mv rfl<|.fU rfl bI<|.cm rfl rfl rfl<|.mv rfl<|.gm c7<|.gm c7<|.gm c7<|.gm c7<|.gm c7<|.gm c7<|.gm c7<|.bh rfl c7 rfl<|.nil) rfl ?_;refine .cA rfl (by decide) ?_;refine .exit (fun _ _ hs=>⟨_,(sj h),fun e=>⟨v2,e.symm,hs.sub (.of rfl) trivial rfl rfl⟩⟩)
 ·rintro _ rfl
  try dsimp only
  refine .al (.mv rfl<|.ao rfl<|.nil) rfl ?_;cases h;refine .aN (fun _ _ hb=>hb) rfl (.t1 (.tmp rfl)) (.refl _) trivial trivial
def jY(v2:Int)(v3:List Int):Option (St (Int×(List Int)) (List Int)):=(if(v2 !=0)=true then((if(decide ((Int.tmod v2 10000)<0))=true then some ((IntKind.i64.wrap (0-(Int.tmod v2 10000))))else some ((Int.tmod v2 10000)))).bind fun v12=>bO ((v3.length+([v12]).length)*8<=140737488355328/\v3.length+([v12]).length<=9223372036854775807) (some (St.next ((IntKind.i64.wrap (Int.tdiv v2 10000)),(v3++[v12]))))else some (St.done v3))
def gp(a1:Int):Option (Bool×(List Int)):=(Loop (fun(s:Int×(List Int))=>jY s.1 s.2) (a1,[])).bind fun v14=>some ((decide (a1<0)),v14)
theorem nV{a1:Int}{r15:Bool}{r16:List Int}(h:gp a1=some (r15,r16)):aW PP 157 [] [D.int .i64 a1] [] (D.agg ([D.bool r15,an (ak.int .i64) r16])):=by
 unfold gp at h;refine .of Go.Proofs.Tryz.func157 rfl (by kernel_rfl) rfl rfl rfl rfl rfl rfl (fun A w0 L b=>?_);show Ok PP _ [(0,D.int .i64 a1)] [] _ _;refine .al (.fW ([D.bool false,D.nil]) b9 ⟨.refl _,.refl _,trivial⟩ rfl<|.nil) rfl ?_;refine .al (.fW ([D.bool false,D.nil]) b9 ⟨.refl _,.refl _,trivial⟩ rfl<|.nil) rfl ?_;refine .al (.mv rfl<|.cm rfl rfl rfl<|.fa rfl eD<|.zi ([D.bool (decide (a1<0)),D.nil]) rfl rfl rfl bW rfl rfl rfl<|.nil) rfl ?_;refine .Iy (ak.int .i64) 3 1 2000301 3 ([D.bool (decide (a1<0)),D.own 2000301]) rfl rfl rfl rfl ?_;obtain⟨v14,hl5,h⟩:=bind_some h;refine .cz (fun i=>v14=i) (fun(i:(List Int))=>[(2,D.ref 2 0),(3,D.ref 3 0)]) (fun(i:(List Int))=>[(2,Hp.box 35 ([D.bool false,D.nil])),(3,Hp.box 35 ([D.bool (decide (a1<0)),D.own 2000301])),(2000301,aR (ak.int .i64) 3 i)]) ?_ ?_
 ·have ho1:=h;refine .block (.cc (fun(s:Int×(List Int))=>[(0,D.int .i64 s.1),(2,D.ref 2 0),(3,D.ref 3 0)]) (fun(s:Int×(List Int))=>[(2,Hp.box 35 ([D.bool false,D.nil])),(3,Hp.box 35 ([D.bool (decide (a1<0)),D.own 2000301])),(2000301,aR (ak.int .i64) 3 s.2)]) hl5 (.of rfl) (.of rfl) rfl rfl ?_);rintro⟨v2,v3⟩ st6 hb7;have h:jY v2 v3=some st6:=hb7;unfold jY at h
  try dsimp only
  refine .sq ?_;refine .al (.mv rfl<|.cm rfl rfl rfl<|.nil) rfl ?_;by_cases c8:(v2 !=0)=true
  ·replace h:=ab c8 h;refine .cq rfl c8 ?_;refine .skip (Ok.on ?_);refine .block ?_;refine .al (.mv rfl<|.ar rfl rfl (A9 (by decide))<|.ao rfl<|.nil) rfl ?_;obtain⟨v12,hp10,h⟩:=bind_some h;refine .cz (fun i=>v12=i) (fun(i:Int)=>[(0,D.int .i64 v2),(2,D.ref 2 0),(3,D.ref 3 0),(4,D.int .i64 i)]) (fun(i:Int)=>[(2,Hp.box 35 ([D.bool false,D.nil])),(3,Hp.box 35 ([D.bool (decide (a1<0)),D.own 2000301])),(2000301,aR (ak.int .i64) 3 v3)]) ?_ ?_
   ·have ho2:=h;have h:=hp10;refine .al (.mv rfl<|.cm rfl rfl rfl<|.nil) rfl ?_;by_cases c11:(decide ((Int.tmod v2 10000)<0))=true
    ·replace h:=ab c11 h;refine .cq rfl c11 ?_;refine .region (.mv rfl<|.neg rfl rfl<|.ao rfl<|.nil) rfl (fun _ _ hs=>⟨(IntKind.i64.wrap (0-(Int.tmod v2 10000))),(sj h),hs.sub (.of rfl) (.of rfl) rfl rfl⟩)
    ·replace h:=ae c11 h;refine .cA rfl c11 ?_;refine .skip (fun _ _ hs=>⟨(Int.tmod v2 10000),(sj h),hs.sub (.of rfl) (.of rfl) rfl rfl⟩)
   ·rintro _ rfl
    try dsimp only
    obtain⟨k13,h⟩:=ax h;refine .al (.fa rfl ba<|.bA (D.own 2000301) rfl rfl d_ rfl<|.mv rfl<|.yO (e:=(ak.int .i64)) [v12] [(0,_,D.int .i64 v12,[D.int .i64 v12])] jC rfl rfl rfl ⟨rfl,rfl,.one rfl,rfl,trivial⟩ ⟨rfl,trivial⟩ rfl rfl<|.xi (ys:=[v12]) rfl (.refl _) rfl (.refl _) rfl jC rfl k13.1 k13.2 rfl<|.fa rfl ba<|.zi ([D.bool (decide (a1<0)),D.own 20]) rfl rfl rfl d_ rfl rfl rfl<|.nil) rfl ?_;refine .region (.mv rfl<|.ar rfl rfl (BU (by decide))<|.ao rfl<|.nil) rfl (fun _ _ hs=>⟨((IntKind.i64.wrap (Int.tdiv v2 10000)),(v3++[v12])),(sj h),hs.l7 (fun r=>match r with|2000301=>20|r=>r) (.r rfl rfl<|.p rfl (.ref (r:=2))<|.p rfl (.ref (r:=3))<|trivial) (.r rfl rfl<|.p rfl (.box ⟨.refl rfl,.own (r:=2000301),trivial⟩)<|.r rfl rfl<|trivial) rfl rfl rfl⟩)
  ·replace h:=ae c8 h;refine .cA rfl c8 ?_;refine .exit (fun _ _ hs=>⟨_,(sj h),fun e=>⟨v3,e.symm,hs.sub (.of rfl) (.of rfl) rfl rfl⟩⟩)
 ·rintro _ rfl
  try dsimp only
  refine .al (.cb ([D.bool (decide (a1<0)),D.own 2000301]) rfl rfl aF rfl rfl<|.cH ([D.bool (decide (a1<0)),D.own 2000301]) rfl rfl rfl aF rfl rfl rfl<|.nil) rfl ?_;refine .HD 2 1 ([D.bool (decide (a1<0)),an (ak.int .i64) v14]) rfl rfl rfl rfl rfl ?_;cases h;refine .aN (fun _ _ hb=>hb) rfl (.cons (.agg rfl rfl aF rfl) .nil) (.refl _) trivial trivial
def kC(a1:List Int)(a2:List Int)(v7:Int):Option (St Int (Ex Unit Int)):=(if(decide (v7>=0))=true then(ix a1 v7).bind fun v13=>(ix a2 v7).bind fun v15=>(if(v13 !=v15)=true then(ix a1 v7).bind fun v18=>(ix a2 v7).bind fun v20=>(if(decide (v18<v20))=true then some (St.done (Ex.ret (-1)))else some (St.done (Ex.ret 1)))else some (St.next (IntKind.i64.wrap (v7-1))))else some (St.done (Ex.cp ())))
def pO(a1:List Int)(a2:List Int):Option Int:=(if((a1.length:Int) !=(a2.length:Int))=true then(if(decide ((a1.length:Int)<(a2.length:Int)))=true then some (-1)else some 1)else((Loop (fun(s:Int)=>kC a1 a2 s) (IntKind.i64.wrap ((a1.length:Int)-1))).bind fun o8=>(match o8 with|Ex.cp ()=>some (Ex.cp ())|Ex.ret r23=>some (Ex.ret r23))).bind fun o5=>(match o5 with|Ex.cp ()=>some 0|Ex.ret r24=>some r24))
theorem E6{a1:List Int}{a2:List Int}{r25:Int}(h:pO a1 a2=some r25):aW PP 218 [] [an (ak.int .i64) a1,an (ak.int .i64) a2] [] (D.int .i64 r25):=by
 unfold pO at h;refine .of Go.Proofs.Tryz.func218 rfl (by kernel_rfl) rfl rfl rfl rfl rfl rfl (fun A w0 L b=>?_);show Ok PP _ [(0,an (ak.int .i64) a1),(1,an (ak.int .i64) a2)] [] _ _;refine .al (.ao rfl<|.nil) rfl ?_;refine .sq ?_;refine .al (.mv rfl<|.fU rfl bI<|.mv rfl<|.fU rfl bI<|.cm rfl rfl rfl<|.nil) rfl ?_;by_cases c3:((a1.length:Int) !=(a2.length:Int))=true
 ·replace h:=ab c3 h;refine .cq rfl c3 ?_;refine .sq ?_;refine .al (.mv rfl<|.fU rfl bI<|.mv rfl<|.fU rfl bI<|.cm rfl rfl rfl<|.nil) rfl ?_;by_cases c4:(decide ((a1.length:Int)<(a2.length:Int)))=true
  ·replace h:=ab c4 h;refine .cq rfl c4 ?_;refine .al (.ao rfl<|.nil) rfl ?_;cases h;refine .aN (fun _ _ hb=>hb) rfl (.t1 (.tmp rfl)) (.refl _) trivial trivial
  ·replace h:=ae c4 h;refine .cA rfl c4 ?_;refine .skip (Ok.on ?_);refine .al (.ao rfl<|.nil) rfl ?_;cases h;refine .aN (fun _ _ hb=>hb) rfl (.t1 (.tmp rfl)) (.refl _) trivial trivial
 ·replace h:=ae c3 h;refine .cA rfl c3 ?_;refine .skip (Ok.on ?_);obtain⟨o5,hp6,h⟩:=bind_some h;refine .cz (fun i=>o5=Ex.cp i) (fun(i:Unit)=>[]) (fun(i:Unit)=>[]) ?_ ?_
  ·have ho1:=h;have h:=hp6;refine .al (.mv rfl<|.fU rfl bI<|.ar rfl rfl rfl<|.ao rfl<|.nil) rfl ?_;obtain⟨o8,hl9,h⟩:=bind_some h;have ho2:=h;refine .block (.cc (fun(s:Int)=>[(0,an (ak.int .i64) a1),(1,an (ak.int .i64) a2),(5,D.int .i64 s)]) (fun(s:Int)=>[]) hl9 (.of rfl) trivial rfl rfl ?_);rintro v7 st10 hb11;have h:kC a1 a2 v7=some st10:=hb11;unfold kC at h
   try dsimp only
   refine .sq ?_;refine .al (.mv rfl<|.cm rfl rfl rfl<|.nil) rfl ?_;by_cases c12:(decide (v7>=0))=true
   ·replace h:=ab c12 h;refine .cq rfl c12 ?_;refine .skip (Ok.on ?_);refine .sq ?_;refine .block ?_;obtain⟨v13,e14,h⟩:=bind_some h;obtain⟨v15,e16,h⟩:=bind_some h;refine .dh cn (.mv rfl<|.mv rfl<|.kX rfl rfl dI (ag e14).1 (ag e14).2<|.iJ rfl dw<|.mv rfl<|.mv rfl<|.kX rfl rfl dI (ag e16).1 (ag e16).2<|.iJ rfl dw<|.cm rfl rfl rfl<|.nil) rfl (by kernel_rfl) ?_;by_cases c17:(v13 !=v15)=true
    ·replace h:=ab c17 h;refine .cq rfl c17 ?_;refine .sq ?_;obtain⟨v18,e19,h⟩:=bind_some h;obtain⟨v20,e21,h⟩:=bind_some h;refine .dh cn (.mv rfl<|.mv rfl<|.kX rfl rfl dI (ag e19).1 (ag e19).2<|.iJ rfl dw<|.mv rfl<|.mv rfl<|.kX rfl rfl dI (ag e21).1 (ag e21).2<|.iJ rfl dw<|.cm rfl rfl rfl<|.nil) rfl (by kernel_rfl) ?_;by_cases c22:(decide (v18<v20))=true
     ·replace h:=ab c22 h;refine .cq rfl c22 ?_;refine .al (.ao rfl<|.nil) rfl ?_;refine .aN (Hi:=[]) (Ho:=[]) (b:=b) (fn:=Go.Proofs.Tryz.f218) (d:=D.int .i64 (-1)) (fun _ _ hb=>by exact⟨_,(sj h),fun e=>by subst e;have h:=ho2;cases h;have h:=ho1;cases h;exact hb⟩) rfl (.t1 (.tmp rfl)) (.refl _) trivial trivial
     ·replace h:=ae c22 h;refine .cA rfl c22 ?_;refine .skip (Ok.on ?_);refine .al (.ao rfl<|.nil) rfl ?_;refine .aN (Hi:=[]) (Ho:=[]) (b:=b) (fn:=Go.Proofs.Tryz.f218) (d:=D.int .i64 1) (fun _ _ hb=>by exact⟨_,(sj h),fun e=>by subst e;have h:=ho2;cases h;have h:=ho1;cases h;exact hb⟩) rfl (.t1 (.tmp rfl)) (.refl _) trivial trivial
    ·replace h:=ae c17 h;refine .cA rfl c17 ?_;refine .skip (Ok.on ?_);refine .region (.mv rfl<|.ar rfl rfl rfl<|.ao rfl<|.nil) rfl (fun _ _ hs=>⟨(IntKind.i64.wrap (v7-1)),(sj h),hs.sub (.of rfl) trivial rfl rfl⟩)
   ·replace h:=ae c12 h;refine .cA rfl c12 ?_;refine .exit (fun a w hs=>⟨_,(sj h),fun e=>by subst e;have h:=ho2;exact aZ (⟨(),(sj h),hs.sub trivial trivial rfl rfl⟩)⟩)
  ·rintro⟨⟩ rfl
   try dsimp only
   refine .al (.ao rfl<|.nil) rfl ?_;cases h;refine .aN (fun _ _ hb=>hb) rfl (.t1 (.tmp rfl)) (.refl _) trivial trivial
def fG(a1:List Int)(a2:List Int)(v5:Int)(v6:Int)(v7:List Int):Option (St (Int×Int×(List Int)) (List Int)):=(if(decide (v6<(a1.length:Int)))=true then(ix a1 v6).bind fun v13=>((if(decide (v6<(a2.length:Int)))=true then(ix a2 v6).bind fun v18=>some ((IntKind.i64.wrap ((IntKind.i64.wrap (v13-v5))-v18)))else some ((IntKind.i64.wrap (v13-v5))))).bind fun v20=>((if(decide (v20<0))=true then some ((1,(IntKind.i64.wrap (v20+10000))))else some ((0,v20)))).bind fun(v24,v25)=>bO ((v7.length+([v25]).length)*8<=140737488355328/\v7.length+([v25]).length<=9223372036854775807) (some (St.next (v24,(IntKind.i64.wrap (v6+1)),(v7++[v25]))))else some (St.done v7))
def ks(a1:List Int)(a2:List Int):Option (List Int):=((Loop (fun(s:Int×Int×(List Int))=>fG a1 a2 s.1 s.2.1 s.2.2) (0,0,[])).bind fun v27=>some (v27)).bind fun v28=>(iY v28).bind fun v29=>some v29
theorem vO{a1:List Int}{a2:List Int}{r31:List Int}(h:ks a1 a2=some r31):aW PP 219 [] [an (ak.int .i64) a1,an (ak.int .i64) a2] [] (an (ak.int .i64) r31):=by
 unfold ks at h;refine .of Go.Proofs.Tryz.func219 rfl (by kernel_rfl) rfl rfl rfl rfl rfl rfl (fun A w0 L b=>?_);show Ok PP _ [(0,an (ak.int .i64) a1),(1,an (ak.int .i64) a2)] [] _ _;refine .al (.ao rfl<|.nil) rfl ?_;refine .al (.ao rfl<|.nil) rfl ?_;refine .al (.ao rfl<|.nil) rfl ?_;obtain⟨v28,hp4,h⟩:=bind_some h;refine .cz (fun i=>v28=i) (fun(i:(List Int))=>[(5,D.own 2000005)]) (fun(i:(List Int))=>[(2000005,aR (ak.int .i64) 3 i)]) ?_ ?_
 ·have ho1:=h;have h:=hp4;refine .al (.ao rfl<|.nil) rfl ?_;refine .gT (ak.int .i64) 5 2000005 3 rfl rfl ?_;obtain⟨o8,hl9,h⟩:=bind_some h;have ho2:=h;refine .block (.cc (fun(s:Int×Int×(List Int))=>[(0,an (ak.int .i64) a1),(1,an (ak.int .i64) a2),(5,D.own 2000005),(6,D.int .i64 s.1),(7,D.int .i64 s.2.1)]) (fun(s:Int×Int×(List Int))=>[(2000005,aR (ak.int .i64) 3 s.2.2)]) hl9 (.of rfl) (.of rfl) rfl rfl ?_);rintro⟨v5,v6,v7⟩ st10 hb11;have h:fG a1 a2 v5 v6 v7=some st10:=hb11;unfold fG at h
  try dsimp only
  refine .sq ?_;refine .al (.mv rfl<|.mv rfl<|.fU rfl bI<|.cm rfl rfl rfl<|.nil) rfl ?_;by_cases c12:(decide (v6<(a1.length:Int)))=true
  ·replace h:=ab c12 h;refine .cq rfl c12 ?_;refine .skip (Ok.on ?_);refine .sq ?_;refine .block ?_;obtain⟨v13,e14,h⟩:=bind_some h;refine .al (.mv rfl<|.mv rfl<|.kX rfl rfl dI (ag e14).1 (ag e14).2<|.iJ rfl dw<|.mv rfl<|.ar rfl rfl rfl<|.ao rfl<|.nil) rfl ?_;obtain⟨v20,hp16,h⟩:=bind_some h;refine .cz (fun i=>v20=i) (fun(i:Int)=>[(0,an (ak.int .i64) a1),(1,an (ak.int .i64) a2),(5,D.own 2000005),(7,D.int .i64 v6),(8,D.int .i64 i)]) (fun(i:Int)=>[(2000005,aR (ak.int .i64) 3 v7)]) ?_ ?_
   ·have ho3:=h;have h:=hp16;refine .al (.mv rfl<|.mv rfl<|.fU rfl bI<|.cm rfl rfl rfl<|.nil) rfl ?_;by_cases c17:(decide (v6<(a2.length:Int)))=true
    ·replace h:=ab c17 h;refine .cq rfl c17 ?_;obtain⟨v18,e19,h⟩:=bind_some h;refine .region (.mv rfl<|.mv rfl<|.mv rfl<|.kX rfl rfl dI (ag e19).1 (ag e19).2<|.iJ rfl dw<|.ar rfl rfl rfl<|.ao rfl<|.nil) rfl (fun _ _ hs=>⟨(IntKind.i64.wrap ((IntKind.i64.wrap (v13-v5))-v18)),(sj h),hs.sub (.of rfl) (.of rfl) rfl rfl⟩)
    ·replace h:=ae c17 h;refine .cA rfl c17 ?_;refine .skip (fun _ _ hs=>⟨(IntKind.i64.wrap (v13-v5)),(sj h),hs.sub (.of rfl) (.of rfl) rfl rfl⟩)
   ·rintro _ rfl
    try dsimp only
    refine .al (.ao rfl<|.nil) rfl ?_;obtain⟨o21,hp22,h⟩:=bind_some h;refine .cz (fun i=>o21=i) (fun(i:Int×Int)=>[(0,an (ak.int .i64) a1),(1,an (ak.int .i64) a2),(5,D.own 2000005),(6,D.int .i64 i.1),(7,D.int .i64 v6),(8,D.int .i64 i.2)]) (fun(i:Int×Int)=>[(2000005,aR (ak.int .i64) 3 v7)]) ?_ ?_
    ·have ho3:=h;have h:=hp22;refine .al (.mv rfl<|.cm rfl rfl rfl<|.nil) rfl ?_;by_cases c23:(decide (v20<0))=true
     ·replace h:=ab c23 h;refine .cq rfl c23 ?_;refine .al (.mv rfl<|.ar rfl rfl rfl<|.ao rfl<|.nil) rfl ?_;refine .region (.ao rfl<|.nil) rfl (fun _ _ hs=>⟨(1,(IntKind.i64.wrap (v20+10000))),(sj h),hs.sub (.of rfl) (.of rfl) rfl rfl⟩)
     ·replace h:=ae c23 h;refine .cA rfl c23 ?_;refine .skip (fun _ _ hs=>⟨(0,v20),(sj h),hs.sub (.of rfl) (.of rfl) rfl rfl⟩)
    ·rintro⟨v24,v25⟩ rfl
     try dsimp only
     refine .sl 5 rfl rfl rfl ?_;obtain⟨k26,h⟩:=ax h;refine .region (.mv rfl<|.mv rfl<|.yO (e:=(ak.int .i64)) [v25] [(0,_,D.int .i64 v25,[D.int .i64 v25])] jC rfl rfl rfl ⟨rfl,rfl,.one rfl,rfl,trivial⟩ ⟨rfl,trivial⟩ rfl rfl<|.xi (ys:=[v25]) rfl .sl rfl (.refl _) rfl jC rfl k26.1 k26.2 rfl<|.ao rfl<|.nil) rfl (Ok.on ?_);refine .region (.mv rfl<|.ar rfl rfl rfl<|.ao rfl<|.nil) rfl (fun _ _ hs=>⟨(v24,(IntKind.i64.wrap (v6+1)),(v7++[v25])),(sj h),hs.l7 (fun r=>match r with|2000005=>38|r=>r) (.r rfl rfl<|.r rfl rfl<|.p rfl (.own (r:=2000005))<|.r rfl rfl<|.r rfl rfl<|trivial) (.r rfl rfl trivial) rfl rfl rfl⟩)
  ·replace h:=ae c12 h;refine .cA rfl c12 ?_;refine .exit (fun a w hs=>⟨_,(sj h),fun e=>by subst e;have h:=ho2;exact aZ (⟨v7,(sj h),hs.sub (.of rfl) (.of rfl) rfl rfl⟩)⟩)
 ·rintro _ rfl
  try dsimp only
  refine .sl 5 rfl rfl rfl ?_;refine .uF 5 (.own 2000005) rfl .sl ?_;refine .j9 5 rfl rfl rfl ?_;obtain⟨v29,e30,h⟩:=bind_some h;refine .al (.mv rfl<|.ah (qE e30) ⟨rfl,trivial⟩ trivial trivial<|.ao rfl<|.nil) rfl ?_;cases h;refine .aN (fun _ _ hb=>hb) rfl (.t1 (.tmp rfl)) (.refl _) trivial trivial
def fC(a1:List Int)(a2:List Int)(v6:Int)(v15:Int)(v16:Int)(v17:List Int):Option (St (Int×Int×(List Int)) (List Int)):=((if(decide (v16<(a2.length:Int)))=true then some (Ex.cp ())else(if(decide (v15>0))=true then some (Ex.cp ())else some (Ex.ret ())))).bind fun o22=>(match o22 with|Ex.cp ()=>(ix v17 (IntKind.i64.wrap (v6+v16))).bind fun v26=>((if(decide (v16<(a2.length:Int)))=true then(ix a1 v6).bind fun v31=>(ix a2 v16).bind fun v33=>some ((IntKind.i64.wrap ((IntKind.i64.wrap (v26+v15))+(IntKind.i64.wrap (v31*v33)))))else some ((IntKind.i64.wrap (v26+v15))))).bind fun v35=>(ix v17 (IntKind.i64.wrap (v6+v16))).bind fun v36=>some (St.next ((IntKind.i64.wrap (Int.tdiv v35 10000)),(IntKind.i64.wrap (v16+1)),(v17.set (IntKind.i64.wrap (v6+v16)).toNat (Int.tmod v35 10000))))|Ex.ret ()=>some (St.done v17))
def iP(a1:List Int)(a2:List Int)(v6:Int)(v7:List Int):Option (St (Int×(List Int)) (List Int)):=(if(decide (v6<(a1.length:Int)))=true then((Loop (fun(s:Int×Int×(List Int))=>fC a1 a2 v6 s.1 s.2.1 s.2.2) (0,0,v7)).bind fun v38=>some (v38)).bind fun v39=>some (St.next ((IntKind.i64.wrap (v6+1)),v39))else some (St.done v7))
def kr(a1:List Int)(a2:List Int):Option (List Int):=bO ((0:Int)<=(IntKind.i64.wrap ((a1.length:Int)+(a2.length:Int)))/\(8:Int)*(IntKind.i64.wrap ((a1.length:Int)+(a2.length:Int)))<=281474976710656/\((IntKind.i64.wrap ((a1.length:Int)+(a2.length:Int))):Int)<=9223372036854775807) (((Loop (fun(s:Int×(List Int))=>iP a1 a2 s.1 s.2) (0,(List.replicate (IntKind.i64.wrap ((a1.length:Int)+(a2.length:Int))).toNat 0))).bind fun v40=>some (v40)).bind fun v41=>(iY v41).bind fun v42=>some v42)
theorem vJ{a1:List Int}{a2:List Int}{r44:List Int}(h:kr a1 a2=some r44):aW PP 216 [] [an (ak.int .i64) a1,an (ak.int .i64) a2] [] (an (ak.int .i64) r44):=by
 unfold kr at h;refine .of Go.Proofs.Tryz.func216 rfl (by kernel_rfl) rfl rfl rfl rfl rfl rfl (fun A w0 L b=>?_);show Ok PP _ [(0,an (ak.int .i64) a1),(1,an (ak.int .i64) a2)] [] _ _;refine .al (.ao rfl<|.nil) rfl ?_;obtain⟨k3,h⟩:=ax h;refine .al (.mv rfl<|.fU rfl bI<|.mv rfl<|.fU rfl bI<|.ar rfl rfl rfl<|.Ip (e:=(ak.int .i64)) 0 rfl rfl jC rfl ⟨.refl _,trivial⟩ k3.1 k3.2.1 k3.2.2 rfl<|.ao rfl<|.nil) rfl ?_;obtain⟨v41,hp5,h⟩:=bind_some h;refine .cz (fun i=>v41=i) (fun(i:(List Int))=>[(5,D.own 15)]) (fun(i:(List Int))=>[(15,aR (ak.int .i64) 3 i)]) ?_ ?_
 ·have ho1:=h;have h:=hp5;refine .al (.ao rfl<|.nil) rfl ?_;obtain⟨o8,hl9,h⟩:=bind_some h;have ho2:=h;refine .block (.cc (fun(s:Int×(List Int))=>[(0,an (ak.int .i64) a1),(1,an (ak.int .i64) a2),(5,D.own 15),(6,D.int .i64 s.1)]) (fun(s:Int×(List Int))=>[(15,aR (ak.int .i64) 3 s.2)]) hl9 (.of rfl) (.of rfl) rfl rfl ?_);rintro⟨v6,v7⟩ st10 hb11;have h:iP a1 a2 v6 v7=some st10:=hb11;unfold iP at h
  try dsimp only
  refine .sq ?_;refine .al (.mv rfl<|.mv rfl<|.fU rfl bI<|.cm rfl rfl rfl<|.nil) rfl ?_;by_cases c12:(decide (v6<(a1.length:Int)))=true
  ·replace h:=ab c12 h;refine .cq rfl c12 ?_;refine .skip (Ok.on ?_);obtain⟨v39,hp14,h⟩:=bind_some h;refine .cz (fun i=>v39=i) (fun(i:(List Int))=>[(0,an (ak.int .i64) a1),(1,an (ak.int .i64) a2),(5,D.own 15),(6,D.int .i64 v6)]) (fun(i:(List Int))=>[(15,aR (ak.int .i64) 3 i)]) ?_ ?_
   ·have ho3:=h;have h:=hp14;refine .block ?_;refine .al (.ao rfl<|.nil) rfl ?_;refine .al (.ao rfl<|.nil) rfl ?_;obtain⟨o18,hl19,h⟩:=bind_some h;have ho4:=h;refine .block (.cc (fun(s:Int×Int×(List Int))=>[(0,an (ak.int .i64) a1),(1,an (ak.int .i64) a2),(5,D.own 15),(6,D.int .i64 v6),(7,D.int .i64 s.1),(8,D.int .i64 s.2.1)]) (fun(s:Int×Int×(List Int))=>[(15,aR (ak.int .i64) 3 s.2.2)]) hl19 (.of rfl) (.of rfl) rfl rfl ?_);rintro⟨v15,v16,v17⟩ st20 hb21;have h:fC a1 a2 v6 v15 v16 v17=some st20:=hb21;unfold fC at h
    try dsimp only
    obtain⟨o22,hp23,h⟩:=bind_some h;refine .cz (fun i=>o22=Ex.cp i) (fun(i:Unit)=>[(0,an (ak.int .i64) a1),(1,an (ak.int .i64) a2),(5,D.own 15),(6,D.int .i64 v6),(7,D.int .i64 v15),(8,D.int .i64 v16)]) (fun(i:Unit)=>[(15,aR (ak.int .i64) 3 v17)]) ?_ ?_
    ·have ho5:=h;have h:=hp23;by_cases c24:(decide (v16<(a2.length:Int)))=true
     ·replace h:=ab c24 h;refine .al (.mv rfl<|.mv rfl<|.fU rfl bI<|.cm rfl rfl rfl<|.mv rfl<|.gk c24<|.gk c24<|.bm rfl c24 rfl<|.nil) rfl ?_;refine .cq rfl rfl ?_;refine .skip (fun _ _ hs=>⟨(),(sj h),hs.sub (.of rfl) (.of rfl) rfl rfl⟩)
     ·replace h:=ae c24 h;refine .al (.mv rfl<|.mv rfl<|.fU rfl bI<|.cm rfl rfl rfl<|.mv rfl<|.gz c24<|.mv rfl<|.gz c24<|.cm rfl rfl rfl<|.bh rfl c24 rfl<|.nil) rfl ?_;by_cases c25:(decide (v15>0))=true
      ·replace h:=ab c25 h;refine .cq rfl c25 ?_;refine .skip (fun _ _ hs=>⟨(),(sj h),hs.sub (.of rfl) (.of rfl) rfl rfl⟩)
      ·replace h:=ae c25 h;refine .cA rfl c25 ?_;cases h;have h:=ho5;refine .exit (fun a w hs=>⟨_,(sj h),fun e=>by subst e;have h:=ho4;exact aZ (⟨v17,(sj h),hs.sub (.of rfl) (.of rfl) rfl rfl⟩)⟩)
    ·rintro⟨⟩ rfl
     try dsimp only
     refine .sq ?_;refine .block ?_;refine .sl 5 rfl rfl rfl ?_;obtain⟨v26,e27,h⟩:=bind_some h;refine .al (.mv rfl<|.mv rfl<|.mv rfl<|.ar rfl rfl rfl<|.pF rfl rfl dI (ag e27).1 (by have:=jh e27;simpa using this)<|.ID rfl rfl dw rfl (ag e27).2 rfl<|.mv rfl<|.ar rfl rfl rfl<|.ao rfl<|.nil) rfl ?_;obtain⟨v35,hp29,h⟩:=bind_some h;refine .cz (fun i=>v35=i) (fun(i:Int)=>[(0,an (ak.int .i64) a1),(1,an (ak.int .i64) a2),(5,D.own 15),(6,D.int .i64 v6),(8,D.int .i64 v16),(9,D.int .i64 i)]) (fun(i:Int)=>[(15,aR (ak.int .i64) 3 v17)]) ?_ ?_
     ·have ho5:=h;have h:=hp29;refine .al (.mv rfl<|.mv rfl<|.fU rfl bI<|.cm rfl rfl rfl<|.nil) rfl ?_;by_cases c30:(decide (v16<(a2.length:Int)))=true
      ·replace h:=ab c30 h;refine .cq rfl c30 ?_;obtain⟨v31,e32,h⟩:=bind_some h;obtain⟨v33,e34,h⟩:=bind_some h;refine .de cn (.mv rfl<|.mv rfl<|.mv rfl<|.kX rfl rfl dI (ag e32).1 (ag e32).2<|.iJ rfl dw<|.mv rfl<|.mv rfl<|.kX rfl rfl dI (ag e34).1 (ag e34).2<|.iJ rfl dw<|.ar rfl rfl rfl<|.ar rfl rfl rfl<|.ao rfl<|.nil) rfl (by kernel_rfl) (fun _ _ hs=>⟨(IntKind.i64.wrap ((IntKind.i64.wrap (v26+v15))+(IntKind.i64.wrap (v31*v33)))),(sj h),hs.sub (.k rfl<|.k rfl<|.p rfl .sl<|.k rfl<|.k rfl<|.k rfl<|trivial) (.of rfl) rfl rfl⟩)
      ·replace h:=ae c30 h;refine .cA rfl c30 ?_;refine .skip (fun _ _ hs=>⟨(IntKind.i64.wrap (v26+v15)),(sj h),hs.sub (.k rfl<|.k rfl<|.p rfl .sl<|.k rfl<|.k rfl<|.k rfl<|trivial) (.of rfl) rfl rfl⟩)
     ·rintro _ rfl
      try dsimp only
      refine .sl 5 rfl rfl rfl ?_;obtain⟨v36,e37,h⟩:=bind_some h;refine .al (.mv rfl<|.mv rfl<|.mv rfl<|.ar rfl rfl rfl<|.mv rfl<|.ar rfl rfl (A9 (by decide))<|.pF rfl rfl dI (ag e37).1 (by have:=jh e37;simpa using this)<|.Fm (Int.tmod v35 10000) rfl rfl rfl dw rfl rfl rfl rfl (cO e37)<|.nil) rfl ?_;refine .region (.mv rfl<|.ar rfl rfl (BU (by decide))<|.ao rfl<|.nil) rfl (Ok.on ?_);refine .region (.mv rfl<|.ar rfl rfl rfl<|.ao rfl<|.nil) rfl (fun _ _ hs=>⟨((IntKind.i64.wrap (Int.tdiv v35 10000)),(IntKind.i64.wrap (v16+1)),(v17.set (IntKind.i64.wrap (v6+v16)).toNat (Int.tmod v35 10000))),(sj h),hs.sub (.k rfl<|.k rfl<|.p rfl .sl<|.k rfl<|.k rfl<|.k rfl<|trivial) (.of rfl) rfl rfl⟩)
   ·rintro _ rfl
    try dsimp only
    refine .region (.mv rfl<|.ar rfl rfl rfl<|.ao rfl<|.nil) rfl (fun _ _ hs=>⟨((IntKind.i64.wrap (v6+1)),v39),(sj h),hs.sub (.of rfl) (.of rfl) rfl rfl⟩)
  ·replace h:=ae c12 h;refine .cA rfl c12 ?_;refine .exit (fun a w hs=>⟨_,(sj h),fun e=>by subst e;have h:=ho2;exact aZ (⟨v7,(sj h),hs.sub (.of rfl) (.of rfl) rfl rfl⟩)⟩)
 ·rintro _ rfl
  try dsimp only
  refine .sl 5 rfl rfl rfl ?_;refine .uF 5 (.own 15) rfl .sl ?_;refine .j9 5 rfl rfl rfl ?_;obtain⟨v42,e43,h⟩:=bind_some h;refine .al (.mv rfl<|.ah (qE e43) ⟨rfl,trivial⟩ trivial trivial<|.ao rfl<|.nil) rfl ?_;cases h;refine .aN (fun _ _ hb=>hb) rfl (.t1 (.tmp rfl)) (.refl _) trivial trivial
def fx(a1:List Int)(a2:Int)(v5:Int)(v6:Int):Option (St (Int×Int) Int):=(if(decide (v6>=a2))=true then(ix a1 v6).bind fun v12=>some (St.next ((IntKind.i64.wrap ((IntKind.i64.wrap (v5*10000))+v12)),(IntKind.i64.wrap (v6-1))))else some (St.done v5))
def fe(a1:List Int)(a2:Int):Option Int:=((Loop (fun(s:Int×Int)=>fx a1 a2 s.1 s.2) (0,(IntKind.i64.wrap ((a1.length:Int)-1)))).bind fun v14=>some (v14)).bind fun v15=>some v15
theorem sC{a1:List Int}{a2:Int}{r16:Int}(h:fe a1 a2=some r16):aW PP 250 [] [an (ak.int .i64) a1,D.int .i64 a2] [] (D.int .i64 r16):=by
 unfold fe at h;refine .of Go.Proofs.Tryz.func250 rfl (by kernel_rfl) rfl rfl rfl rfl rfl rfl (fun A w0 L b=>?_);show Ok PP _ [(0,an (ak.int .i64) a1),(1,D.int .i64 a2)] [] _ _;refine .al (.ao rfl<|.nil) rfl ?_;refine .al (.ao rfl<|.nil) rfl ?_;obtain⟨v15,hp4,h⟩:=bind_some h;refine .cz (fun i=>v15=i) (fun(i:Int)=>[(5,D.int .i64 i)]) (fun(i:Int)=>[]) ?_ ?_
 ·have ho1:=h;have h:=hp4;refine .al (.mv rfl<|.fU rfl bI<|.ar rfl rfl rfl<|.ao rfl<|.nil) rfl ?_;obtain⟨o7,hl8,h⟩:=bind_some h;have ho2:=h;refine .block (.cc (fun(s:Int×Int)=>[(0,an (ak.int .i64) a1),(1,D.int .i64 a2),(5,D.int .i64 s.1),(6,D.int .i64 s.2)]) (fun(s:Int×Int)=>[]) hl8 (.of rfl) trivial rfl rfl ?_);rintro⟨v5,v6⟩ st9 hb10;have h:fx a1 a2 v5 v6=some st9:=hb10;unfold fx at h
  try dsimp only
  refine .sq ?_;refine .al (.mv rfl<|.mv rfl<|.cm rfl rfl rfl<|.nil) rfl ?_;by_cases c11:(decide (v6>=a2))=true
  ·replace h:=ab c11 h;refine .cq rfl c11 ?_;refine .skip (Ok.on ?_);refine .sq ?_;refine .block ?_;obtain⟨v12,e13,h⟩:=bind_some h;refine .region (.mv rfl<|.ar rfl rfl rfl<|.mv rfl<|.mv rfl<|.kX rfl rfl dI (ag e13).1 (ag e13).2<|.iJ rfl dw<|.ar rfl rfl rfl<|.ao rfl<|.nil) rfl (Ok.on ?_);refine .region (.mv rfl<|.ar rfl rfl rfl<|.ao rfl<|.nil) rfl (fun _ _ hs=>⟨((IntKind.i64.wrap ((IntKind.i64.wrap (v5*10000))+v12)),(IntKind.i64.wrap (v6-1))),(sj h),hs.sub (.of rfl) trivial rfl rfl⟩)
  ·replace h:=ae c11 h;refine .cA rfl c11 ?_;refine .exit (fun a w hs=>⟨_,(sj h),fun e=>by subst e;have h:=ho2;exact aZ (⟨v5,(sj h),hs.sub (.of rfl) trivial rfl rfl⟩)⟩)
 ·rintro _ rfl
  try dsimp only
  refine .al (.mv rfl<|.ao rfl<|.nil) rfl ?_;cases h;refine .aN (fun _ _ hb=>hb) rfl (.t1 (.tmp rfl)) (.refl _) trivial trivial
def iA(a2:List Int)(v41:List Int)(v42:Int):Option (St ((List Int)×Int) ((List Int)×Int)):=(pO v41 a2).bind fun v47=>(if(decide (v47>=0))=true then(ks v41 a2).bind fun v50=>some (St.next (v50,(IntKind.i64.wrap (v42+1))))else some (St.done (v41,v42)))
def gf(a1:List Int)(a2:List Int)(v6:List Int)(v7:Int)(v8:List Int):Option (St ((List Int)×Int×(List Int)) ((List Int)×(List Int))):=(if(decide (v7>=0))=true then(ix a1 v7).bind fun v14=>bO ((([v14]).length+v6.length)*8<=140737488355328/\([v14]).length+v6.length<=9223372036854775807) ((iY ([v14]++v6)).bind fun v17=>((if(decide ((a2.length:Int)<=3))=true then(fe v17 0).bind fun v22=>(fe a2 0).bind fun v24=>bO ((v24:Int)≠0) (some ((IntKind.i64.wrap (Int.tdiv v22 v24))))else(if(decide ((v17.length:Int)>=(a2.length:Int)))=true then(fe v17 (IntKind.i64.wrap ((a2.length:Int)-3))).bind fun v28=>(fe a2 (IntKind.i64.wrap ((a2.length:Int)-3))).bind fun v30=>bO (((IntKind.i64.wrap (v30+1)):Int)≠0) (some ((IntKind.i64.wrap (Int.tdiv v28 (IntKind.i64.wrap (v30+1))))))else some (0)))).bind fun v33=>(gp v33).bind fun(v34,v35)=>(kr a2 v35).bind fun v37=>(ks v17 v37).bind fun v39=>(Loop (fun(s:(List Int)×Int)=>iA a2 s.1 s.2) (v39,v33)).bind fun(v52,v53)=>(ix v8 v7).bind fun v54=>some (St.next (v52,(IntKind.i64.wrap (v7-1)),(v8.set v7.toNat v53))))else some (St.done (v6,v8)))
def kJ(a1:List Int)(a2:List Int):Option ((List Int)×(List Int)):=bO ((0:Int)<=(a1.length:Int)/\(8:Int)*(a1.length:Int)<=281474976710656/\((a1.length:Int):Int)<=9223372036854775807) (((Loop (fun(s:(List Int)×Int×(List Int))=>gf a1 a2 s.1 s.2.1 s.2.2) ([],(IntKind.i64.wrap ((a1.length:Int)-1)),(List.replicate (a1.length:Int).toNat 0))).bind fun(v56,v57)=>some ((v56,v57))).bind fun(v58,v59)=>(iY v59).bind fun v60=>some (v60,v58))
theorem tL{a1:List Int}{a2:List Int}{r62:List Int}{r63:List Int}(h:kJ a1 a2=some (r62,r63)):aW PP 221 [] [an (ak.int .i64) a1,an (ak.int .i64) a2] [] (D.gV [an (ak.int .i64) r62,an (ak.int .i64) r63]):=by
 unfold kJ at h;refine .of Go.Proofs.Tryz.func221 rfl (by kernel_rfl) rfl rfl rfl rfl rfl rfl (fun A w0 L b=>?_);show Ok PP _ [(0,an (ak.int .i64) a1),(1,an (ak.int .i64) a2)] [] _ _;refine .al (.ao rfl<|.ao rfl<|.nil) rfl ?_;refine .al (.ao rfl<|.nil) rfl ?_;obtain⟨k3,h⟩:=ax h;refine .al (.mv rfl<|.fU rfl bI<|.Ip (e:=(ak.int .i64)) 0 rfl rfl jC rfl ⟨.refl _,trivial⟩ k3.1 k3.2.1 k3.2.2 rfl<|.ao rfl<|.nil) rfl ?_;obtain⟨o4,hp5,h⟩:=bind_some h;refine .cz (fun i=>o4=i) (fun(i:(List Int)×(List Int))=>[(6,an (ak.int .i64) i.1),(7,D.own 12)]) (fun(i:(List Int)×(List Int))=>[(12,aR (ak.int .i64) 3 i.2)]) ?_ ?_
 ·have ho1:=h;have h:=hp5;refine .al (.mv rfl<|.fU rfl bI<|.ar rfl rfl rfl<|.ao rfl<|.nil) rfl ?_;obtain⟨o9,hl10,h⟩:=bind_some h;have ho2:=h;refine .block (.cc (fun(s:(List Int)×Int×(List Int))=>[(0,an (ak.int .i64) a1),(1,an (ak.int .i64) a2),(6,an (ak.int .i64) s.1),(7,D.own 12),(8,D.int .i64 s.2.1)]) (fun(s:(List Int)×Int×(List Int))=>[(12,aR (ak.int .i64) 3 s.2.2)]) hl10 (.k rfl<|.k rfl<|.p rfl (.gT _)<|.k rfl<|.k rfl<|trivial) (.of rfl) rfl rfl ?_);rintro⟨v6,v7,v8⟩ st11 hb12;have h:gf a1 a2 v6 v7 v8=some st11:=hb12;unfold gf at h
  try dsimp only
  refine .sq ?_;refine .al (.mv rfl<|.cm rfl rfl rfl<|.nil) rfl ?_;by_cases c13:(decide (v7>=0))=true
  ·replace h:=ab c13 h;refine .cq rfl c13 ?_;refine .skip (Ok.on ?_);refine .sq ?_;refine .block ?_;obtain⟨v14,e15,h⟩:=bind_some h;obtain⟨k16,h⟩:=ax h;obtain⟨v17,e18,h⟩:=bind_some h;refine .al (.mv rfl<|.mv rfl<|.kX rfl rfl dI (ag e15).1 (ag e15).2<|.iJ rfl dw<|.Jy (e:=(ak.int .i64)) [v14] [(0,_,D.int .i64 v14,[D.int .i64 v14])] jC rfl rfl rfl ⟨rfl,rfl,.one rfl,rfl,trivial⟩ ⟨rfl,trivial⟩ rfl rfl rfl<|.mv rfl<|.gv (e:=(ak.int .i64)) (xs:=([v14]++v6)) (.xi (ys:=v6) rfl (.refl _) rfl (.refl _) rfl jC rfl k16.1 k16.2 rfl<|.nil) rfl rfl rfl rfl<|.ah (qE e18) ⟨rfl,trivial⟩ trivial trivial<|.ao rfl<|.nil) rfl ?_;refine .al (.ao rfl<|.nil) rfl ?_;obtain⟨v33,hp20,h⟩:=bind_some h;refine .cz (fun i=>v33=i) (fun(i:Int)=>[(0,an (ak.int .i64) a1),(1,an (ak.int .i64) a2),(6,an (ak.int .i64) v17),(7,D.own 12),(8,D.int .i64 v7),(9,D.int .i64 i)]) (fun(i:Int)=>[(12,aR (ak.int .i64) 3 v8)]) ?_ ?_
   ·have ho3:=h;have h:=hp20;refine .al (.mv rfl<|.fU rfl bI<|.cm rfl rfl rfl<|.nil) rfl ?_;by_cases c21:(decide ((a2.length:Int)<=3))=true
    ·replace h:=ab c21 h;refine .cq rfl c21 ?_;obtain⟨v22,e23,h⟩:=bind_some h;obtain⟨v24,e25,h⟩:=bind_some h;obtain⟨k26,h⟩:=ax h;refine .region (.mv rfl<|.ah (sC e23) ⟨rfl,rfl,trivial⟩ trivial trivial<|.mv rfl<|.ah (sC e25) ⟨rfl,rfl,trivial⟩ trivial trivial<|.ar rfl rfl (BU k26)<|.ao rfl<|.nil) rfl (fun _ _ hs=>⟨(IntKind.i64.wrap (Int.tdiv v22 v24)),(sj h),hs.sub (.of rfl) (.of rfl) rfl rfl⟩)
    ·replace h:=ae c21 h;refine .cA rfl c21 ?_;refine .al (.mv rfl<|.fU rfl bI<|.mv rfl<|.fU rfl bI<|.cm rfl rfl rfl<|.nil) rfl ?_;by_cases c27:(decide ((v17.length:Int)>=(a2.length:Int)))=true
     ·replace h:=ab c27 h;refine .cq rfl c27 ?_;obtain⟨v28,e29,h⟩:=bind_some h;obtain⟨v30,e31,h⟩:=bind_some h;obtain⟨k32,h⟩:=ax h;refine .region (.mv rfl<|.mv rfl<|.fU rfl bI<|.ar rfl rfl rfl<|.ah (sC e29) ⟨rfl,rfl,trivial⟩ trivial trivial<|.mv rfl<|.mv rfl<|.fU rfl bI<|.ar rfl rfl rfl<|.ah (sC e31) ⟨rfl,rfl,trivial⟩ trivial trivial<|.ar rfl rfl rfl<|.ar rfl rfl (BU k32)<|.ao rfl<|.nil) rfl (fun _ _ hs=>⟨(IntKind.i64.wrap (Int.tdiv v28 (IntKind.i64.wrap (v30+1)))),(sj h),hs.sub (.of rfl) (.of rfl) rfl rfl⟩)
     ·replace h:=ae c27 h;refine .cA rfl c27 ?_;refine .skip (fun _ _ hs=>⟨0,(sj h),hs.sub (.of rfl) (.of rfl) rfl rfl⟩)
   ·rintro _ rfl
    try dsimp only
    obtain⟨⟨v34,v35⟩,e36,h⟩:=bind_some h;obtain⟨v37,e38,h⟩:=bind_some h;obtain⟨v39,e40,h⟩:=bind_some h;refine .al (.mv rfl<|.mv rfl<|.mv rfl<|.ah (nV e36) ⟨rfl,trivial⟩ trivial trivial<|.Jw rfl ba (t:=33) (by kernel_rfl) d_ rfl<|.ah (vJ e38) ⟨rfl,rfl,trivial⟩ trivial trivial<|.ah (vO e40) ⟨rfl,rfl,trivial⟩ trivial trivial<|.ao rfl<|.nil) rfl ?_;obtain⟨o43,hl44,h⟩:=bind_some h;refine .cz (fun i=>o43=i) (fun(i:(List Int)×Int)=>[(0,an (ak.int .i64) a1),(1,an (ak.int .i64) a2),(6,an (ak.int .i64) i.1),(7,D.own 12),(8,D.int .i64 v7),(9,D.int .i64 i.2)]) (fun(i:(List Int)×Int)=>[(12,aR (ak.int .i64) 3 v8)]) ?_ ?_
    ·have ho3:=h;refine .block (.cc (fun(s:(List Int)×Int)=>[(0,an (ak.int .i64) a1),(1,an (ak.int .i64) a2),(6,an (ak.int .i64) s.1),(7,D.own 12),(8,D.int .i64 v7),(9,D.int .i64 s.2)]) (fun(s:(List Int)×Int)=>[(12,aR (ak.int .i64) 3 v8)]) hl44 (.of rfl) (.of rfl) rfl rfl ?_);rintro⟨v41,v42⟩ st45 hb46;have h:iA a2 v41 v42=some st45:=hb46;unfold iA at h
     try dsimp only
     refine .sq ?_;obtain⟨v47,e48,h⟩:=bind_some h;refine .al (.mv rfl<|.mv rfl<|.ah (E6 e48) ⟨rfl,rfl,trivial⟩ trivial trivial<|.cm rfl rfl rfl<|.nil) rfl ?_;by_cases c49:(decide (v47>=0))=true
     ·replace h:=ab c49 h;refine .cq rfl c49 ?_;refine .skip (Ok.on ?_);refine .block ?_;obtain⟨v50,e51,h⟩:=bind_some h;refine .al (.mv rfl<|.mv rfl<|.ah (vO e51) ⟨rfl,rfl,trivial⟩ trivial trivial<|.ao rfl<|.nil) rfl ?_;refine .region (.mv rfl<|.ar rfl rfl rfl<|.ao rfl<|.nil) rfl (fun _ _ hs=>⟨(v50,(IntKind.i64.wrap (v42+1))),(sj h),hs.sub (.of rfl) (.of rfl) rfl rfl⟩)
     ·replace h:=ae c49 h;refine .cA rfl c49 ?_;refine .exit (fun _ _ hs=>⟨_,(sj h),fun e=>⟨(v41,v42),e.symm,hs.sub (.of rfl) (.of rfl) rfl rfl⟩⟩)
    ·rintro⟨v52,v53⟩ rfl
     try dsimp only
     refine .sl 7 rfl rfl rfl ?_;obtain⟨v54,e55,h⟩:=bind_some h;refine .region (.mv rfl<|.mv rfl<|.mv rfl<|.pF rfl rfl dI (ag e55).1 (by have:=jh e55;simpa using this)<|.Fm v53 rfl rfl rfl dw rfl rfl rfl rfl (cO e55)<|.nil) rfl (Ok.on ?_);refine .region (.mv rfl<|.ar rfl rfl rfl<|.ao rfl<|.nil) rfl (fun _ _ hs=>⟨(v52,(IntKind.i64.wrap (v7-1)),(v8.set v7.toNat v53)),(sj h),hs.sub (.k rfl<|.k rfl<|.k rfl<|.p rfl .sl<|.k rfl<|trivial) (.of rfl) rfl rfl⟩)
  ·replace h:=ae c13 h;refine .cA rfl c13 ?_;refine .exit (fun a w hs=>⟨_,(sj h),fun e=>by subst e;have h:=ho2;exact aZ (⟨(v6,v8),(sj h),hs.sub (.of rfl) (.of rfl) rfl rfl⟩)⟩)
 ·rintro⟨v58,v59⟩ rfl
  try dsimp only
  refine .sl 7 rfl rfl rfl ?_;refine .uF 7 (.own 12) rfl .sl ?_;refine .j9 7 rfl rfl rfl ?_;obtain⟨v60,e61,h⟩:=bind_some h;refine .al (.mv rfl<|.ah (qE e61) ⟨rfl,trivial⟩ trivial trivial<|.mv rfl<|.ao rfl<|.ao rfl<|.nil) rfl ?_;cases h;refine .aN (fun _ _ hb=>hb) rfl (.cons (.tmp rfl) (.t1 (.tmp rfl))) (.refl _) trivial trivial
def gi(a1:Bool)(a2:List Int):Option (Bool×(List Int)):=(if a1=true then some ((decide ((a2.length:Int)>0)),a2)else some (false,a2))
theorem m4{a1:Bool}{a2:List Int}{r4:Bool}{r5:List Int}(h:gi a1 a2=some (r4,r5)):aW PP 181 [] [D.bool a1,an (ak.int .i64) a2] [] (D.agg ([D.bool r4,an (ak.int .i64) r5])):=by
 unfold gi at h;refine .of Go.Proofs.Tryz.func181 rfl (by kernel_rfl) rfl rfl rfl rfl rfl rfl (fun A w0 L b=>?_);show Ok PP _ [(0,D.bool a1),(1,an (ak.int .i64) a2)] [] _ _;refine .al (.fW ([D.bool false,D.nil]) b9 ⟨.refl _,.refl _,trivial⟩ rfl<|.nil) rfl ?_;by_cases c3:a1=true
 ·replace h:=ab c3 h;refine .al (.mv rfl<|.mv rfl<|.gy c3<|.mv rfl<|.gy c3<|.fU rfl bI<|.gy c3<|.cm rfl rfl rfl<|.bm rfl c3 rfl<|.mv rfl<|.pC ([D.bool (decide ((a2.length:Int)>0)),an (ak.int .i64) a2]) [(0,_,D.bool (decide ((a2.length:Int)>0)),[D.bool (decide ((a2.length:Int)>0))]),(1,_,an (ak.int .i64) a2,[an (ak.int .i64) a2])] b9 fN ⟨rfl,rfl,.one rfl,rfl,rfl,rfl,.one rfl,rfl,trivial⟩ ⟨rfl,rfl,trivial⟩ ⟨.refl _,.refl _,trivial⟩<|.cH ([D.bool (decide ((a2.length:Int)>0)),an (ak.int .i64) a2]) rfl rfl rfl aF rfl rfl rfl<|.nil) rfl ?_;cases h;refine .aN (fun _ _ hb=>hb) rfl (.cons (.agg rfl rfl aF rfl) .nil) (.refl _) trivial trivial
 ·replace h:=ae c3 h;refine .al (.mv rfl<|.mv rfl<|.gm c3<|.gm c3<|.gm c3<|.bh rfl c3 rfl<|.mv rfl<|.pC ([D.bool false,an (ak.int .i64) a2]) [(0,_,D.bool false,[D.bool false]),(1,_,an (ak.int .i64) a2,[an (ak.int .i64) a2])] b9 fN ⟨rfl,rfl,.one rfl,rfl,rfl,rfl,.one rfl,rfl,trivial⟩ ⟨rfl,rfl,trivial⟩ ⟨.refl _,.refl _,trivial⟩<|.cH ([D.bool false,an (ak.int .i64) a2]) rfl rfl rfl aF rfl rfl rfl<|.nil) rfl ?_;cases h;refine .aN (fun _ _ hb=>hb) rfl (.cons (.agg rfl rfl aF rfl) .nil) (.refl _) trivial trivial
def l6(a1:Bool)(a2:List Int):Option (Bool×(List Int)):=(gi (!a1) a2).bind fun(v3,v4)=>some (v3,v4)
theorem yq{a1:Bool}{a2:List Int}{r6:Bool}{r7:List Int}(h:l6 a1 a2=some (r6,r7)):aW PP 160 [] [D.agg ([D.bool a1,an (ak.int .i64) a2])] [] (D.agg ([D.bool r6,an (ak.int .i64) r7])):=by
 unfold l6 at h;refine .of Go.Proofs.Tryz.func160 rfl (by kernel_rfl) rfl rfl rfl rfl rfl rfl (fun A w0 L b=>?_);show Ok PP _ [(0,D.agg ([D.bool a1,an (ak.int .i64) a2]))] [] _ _;refine .al (.j8 rfl rfl<|.fW ([D.bool false,D.nil]) b9 ⟨.refl _,.refl _,trivial⟩ rfl<|.nil) rfl ?_;obtain⟨⟨v3,v4⟩,e5,h⟩:=bind_some h;refine .al (.fa rfl eD<|.bA (D.bool a1) rfl rfl bW rfl<|.not rfl<|.fa rfl ba<|.bA (an (ak.int .i64) a2) rfl rfl d_ rfl<|.ah (m4 e5) ⟨rfl,rfl,trivial⟩ trivial trivial<|.cH ([D.bool v3,an (ak.int .i64) v4]) rfl rfl rfl aF rfl rfl rfl<|.nil) rfl ?_;cases h;refine .aN (fun _ _ hb=>hb) rfl (.cons (.agg rfl rfl aF rfl) .nil) (.refl _) trivial trivial
def kx(a1:Bool)(a2:List Int)(a3:Bool)(a4:List Int):Option (Bool×(List Int)):=(kr a2 a4).bind fun v5=>(gi (!(a1==a3)) v5).bind fun(v7,v8)=>some (v7,v8)
theorem x5{a1:Bool}{a2:List Int}{a3:Bool}{a4:List Int}{r10:Bool}{r11:List Int}(h:kx a1 a2 a3 a4=some (r10,r11)):aW PP 158 [] [D.agg ([D.bool a1,an (ak.int .i64) a2]),D.agg ([D.bool a3,an (ak.int .i64) a4])] [] (D.agg ([D.bool r10,an (ak.int .i64) r11])):=by
 unfold kx at h;refine .of Go.Proofs.Tryz.func158 rfl (by kernel_rfl) rfl rfl rfl rfl rfl rfl (fun A w0 L b=>?_);show Ok PP _ [(0,D.agg ([D.bool a1,an (ak.int .i64) a2])),(1,D.agg ([D.bool a3,an (ak.int .i64) a4]))] [] _ _;refine .al (.j8 rfl rfl<|.j8 rfl rfl<|.fW ([D.bool false,D.nil]) b9 ⟨.refl _,.refl _,trivial⟩ rfl<|.nil) rfl ?_;obtain⟨v5,e6,h⟩:=bind_some h;obtain⟨⟨v7,v8⟩,e9,h⟩:=bind_some h;refine .dh cn (.fa rfl eD<|.bA (D.bool a1) rfl rfl bW rfl<|.fa rfl eD<|.bA (D.bool a3) rfl rfl bW rfl<|.bc jF rfl rfl rfl<|.fa rfl ba<|.bA (an (ak.int .i64) a2) rfl rfl d_ rfl<|.fa rfl ba<|.bA (an (ak.int .i64) a4) rfl rfl d_ rfl<|.ah (vJ e6) ⟨rfl,rfl,trivial⟩ trivial trivial<|.ah (m4 e9) ⟨rfl,rfl,trivial⟩ trivial trivial<|.cH ([D.bool v7,an (ak.int .i64) v8]) rfl rfl rfl aF rfl rfl rfl<|.nil) rfl (by kernel_rfl) ?_;cases h;refine .aN (fun _ _ hb=>hb) rfl (.cons (.agg rfl rfl aF rfl) .nil) (.refl _) trivial trivial
def ki(a2:List Int)(v6:Int)(v7:Int):Option (St (Int×Int) Int):=(if(decide (v7>=0))=true then(ix a2 v7).bind fun v13=>some (St.next ((IntKind.i64.wrap ((IntKind.i64.wrap (v6*10000))+v13)),(IntKind.i64.wrap (v7-1))))else some (St.done v6))
def kk(a1:Bool)(a2:List Int):Option (Int×Bool):=(if(decide ((a2.length:Int)>4))=true then some (0,false)else((Loop (fun(s:Int×Int)=>ki a2 s.1 s.2) (0,(IntKind.i64.wrap ((a2.length:Int)-1)))).bind fun v15=>some (v15)).bind fun v16=>some (v16,true))
theorem vy{a1:Bool}{a2:List Int}{r17:Int}{r18:Bool}(h:kk a1 a2=some (r17,r18)):aW PP 249 [] [D.agg ([D.bool a1,an (ak.int .i64) a2])] [] (D.gV [D.int .i64 r17,D.bool r18]):=by
 unfold kk at h;refine .of Go.Proofs.Tryz.func249 rfl (by kernel_rfl) rfl rfl rfl rfl rfl rfl (fun A w0 L b=>?_);show Ok PP _ [(0,D.agg ([D.bool a1,an (ak.int .i64) a2]))] [] _ _;refine .al (.j8 rfl rfl<|.ao rfl<|.ao rfl<|.nil) rfl ?_;refine .sq ?_;refine .al (.fa rfl ba<|.bA (an (ak.int .i64) a2) rfl rfl d_ rfl<|.fU rfl bI<|.cm rfl rfl rfl<|.nil) rfl ?_;by_cases c3:(decide ((a2.length:Int)>4))=true
 ·replace h:=ab c3 h;refine .cq rfl c3 ?_;refine .al (.ao rfl<|.ao rfl<|.nil) rfl ?_;cases h;refine .aN (fun _ _ hb=>hb) rfl (.cons (.tmp rfl) (.t1 (.tmp rfl))) (.refl _) trivial trivial
 ·replace h:=ae c3 h;refine .cA rfl c3 ?_;refine .skip (Ok.on ?_);refine .al (.ao rfl<|.nil) rfl ?_;obtain⟨v16,hp5,h⟩:=bind_some h;refine .cz (fun i=>v16=i) (fun(i:Int)=>[(4,D.int .i64 i)]) (fun(i:Int)=>[]) ?_ ?_
  ·have ho1:=h;have h:=hp5;refine .al (.fa rfl ba<|.bA (an (ak.int .i64) a2) rfl rfl d_ rfl<|.fU rfl bI<|.ar rfl rfl rfl<|.ao rfl<|.nil) rfl ?_;obtain⟨o8,hl9,h⟩:=bind_some h;have ho2:=h;refine .block (.cc (fun(s:Int×Int)=>[(1,D.ref 1 0),(4,D.int .i64 s.1),(5,D.int .i64 s.2)]) (fun(s:Int×Int)=>[(1,Hp.box 35 ([D.bool a1,an (ak.int .i64) a2]))]) hl9 (.of rfl) (.of rfl) rfl rfl ?_);rintro⟨v6,v7⟩ st10 hb11;have h:ki a2 v6 v7=some st10:=hb11;unfold ki at h
   try dsimp only
   refine .sq ?_;refine .al (.mv rfl<|.cm rfl rfl rfl<|.nil) rfl ?_;by_cases c12:(decide (v7>=0))=true
   ·replace h:=ab c12 h;refine .cq rfl c12 ?_;refine .skip (Ok.on ?_);refine .sq ?_;refine .block ?_;obtain⟨v13,e14,h⟩:=bind_some h;refine .region (.mv rfl<|.ar rfl rfl rfl<|.fa rfl ba<|.bA (an (ak.int .i64) a2) rfl rfl d_ rfl<|.mv rfl<|.kX rfl rfl dI (ag e14).1 (ag e14).2<|.iJ rfl dw<|.ar rfl rfl rfl<|.ao rfl<|.nil) rfl (Ok.on ?_);refine .region (.mv rfl<|.ar rfl rfl rfl<|.ao rfl<|.nil) rfl (fun _ _ hs=>⟨((IntKind.i64.wrap ((IntKind.i64.wrap (v6*10000))+v13)),(IntKind.i64.wrap (v7-1))),(sj h),hs.sub (.of rfl) (.of rfl) rfl rfl⟩)
   ·replace h:=ae c12 h;refine .cA rfl c12 ?_;refine .exit (fun a w hs=>⟨_,(sj h),fun e=>by subst e;have h:=ho2;exact aZ (⟨v6,(sj h),hs.sub (.of rfl) trivial rfl rfl⟩)⟩)
  ·rintro _ rfl
   try dsimp only
   refine .al (.mv rfl<|.ao rfl<|.ao rfl<|.nil) rfl ?_;cases h;refine .aN (fun _ _ hb=>hb) rfl (.cons (.tmp rfl) (.t1 (.tmp rfl))) (.refl _) trivial trivial
def jW(v22:Int)(v23:Int):Option (St (Int×Int) Int):=(if(v23 !=0)=true then bO ((v23:Int)≠0) (some (St.next (v23,(Int.tmod v22 v23))))else some (St.done v22))
def jP(v5:List Int)(v6:List Int):Option (St ((List Int)×(List Int)) (Ex (List Int) (Bool×(List Int)))):=(if(decide ((v6.length:Int)>0))=true then(kk false v5).bind fun(v12,v13)=>(kk false v6).bind fun(v15,v16)=>((if v13=true then(if v16=true then(Loop (fun(s:Int×Int)=>jW s.1 s.2) (v12,v15)).bind fun v30=>(gp v30).bind fun(v31,v32)=>some (Ex.ret (v31,v32))else some (Ex.cp ()))else some (Ex.cp ()))).bind fun o18=>(match o18 with|Ex.cp ()=>(kJ v5 v6).bind fun(v34,v35)=>some (St.next (v6,v35))|Ex.ret (r37,r38)=>some (St.done (Ex.ret (r37,r38))))else some (St.done (Ex.cp v5)))
def n0(a1:Bool)(a2:List Int)(a3:Bool)(a4:List Int):Option (Bool×(List Int)):=(Loop (fun(s:(List Int)×(List Int))=>jP s.1 s.2) (a2,a4)).bind fun o7=>(match o7 with|Ex.cp v39=>some (false,v39)|Ex.ret (r40,r41)=>some (r40,r41))
theorem C1{a1:Bool}{a2:List Int}{a3:Bool}{a4:List Int}{r42:Bool}{r43:List Int}(h:n0 a1 a2 a3 a4=some (r42,r43)):aW PP 220 [] [D.agg ([D.bool a1,an (ak.int .i64) a2]),D.agg ([D.bool a3,an (ak.int .i64) a4])] [] (D.agg ([D.bool r42,an (ak.int .i64) r43])):=by
 unfold n0 at h;refine .of Go.Proofs.Tryz.func220 rfl (by kernel_rfl) rfl rfl rfl rfl rfl rfl (fun A w0 L b=>?_);show Ok PP _ [(0,D.agg ([D.bool a1,an (ak.int .i64) a2])),(1,D.agg ([D.bool a3,an (ak.int .i64) a4]))] [] _ _;refine .al (.j8 rfl rfl<|.j8 rfl rfl<|.fW ([D.bool false,D.nil]) b9 ⟨.refl _,.refl _,trivial⟩ rfl<|.nil) rfl ?_;refine .dh cn (.fa rfl ba<|.bA (an (ak.int .i64) a2) rfl rfl d_ rfl<|.fa rfl ba<|.bA (an (ak.int .i64) a4) rfl rfl d_ rfl<|.ao rfl<|.ao rfl<|.nil) rfl (by kernel_rfl) ?_;obtain⟨o7,hl8,h⟩:=bind_some h;refine .cz (fun i=>o7=Ex.cp i) (fun(i:(List Int))=>[(4,D.ref 4 0),(5,an (ak.int .i64) i)]) (fun(i:(List Int))=>[(4,Hp.box 35 ([D.bool false,D.nil]))]) ?_ ?_
 ·have ho1:=h;refine .block (.cc (fun(s:(List Int)×(List Int))=>[(4,D.ref 4 0),(5,an (ak.int .i64) s.1),(6,an (ak.int .i64) s.2)]) (fun(s:(List Int)×(List Int))=>[(4,Hp.box 35 ([D.bool false,D.nil]))]) hl8 (.of rfl) (.of rfl) rfl rfl ?_);rintro⟨v5,v6⟩ st9 hb10;have h:jP v5 v6=some st9:=hb10;unfold jP at h
  try dsimp only
  refine .sq ?_;refine .al (.mv rfl<|.fU rfl bI<|.cm rfl rfl rfl<|.nil) rfl ?_;by_cases c11:(decide ((v6.length:Int)>0))=true
  ·replace h:=ab c11 h;refine .cq rfl c11 ?_;refine .skip (Ok.on ?_);refine .block ?_;obtain⟨⟨v12,v13⟩,e14,h⟩:=bind_some h;refine .al (.mv rfl<|.pC ([D.bool false,an (ak.int .i64) v5]) [(1,_,an (ak.int .i64) v5,[an (ak.int .i64) v5])] b9 fN ⟨rfl,rfl,.one rfl,rfl,trivial⟩ ⟨rfl,trivial⟩ ⟨.refl _,.refl _,trivial⟩<|.ah (vy e14) ⟨rfl,trivial⟩ trivial trivial<|.mv rfl<|.ext rfl rfl<|.ext rfl rfl<|.ao rfl<|.ao rfl<|.nil) rfl ?_;obtain⟨⟨v15,v16⟩,e17,h⟩:=bind_some h;refine .al (.mv rfl<|.pC ([D.bool false,an (ak.int .i64) v6]) [(1,_,an (ak.int .i64) v6,[an (ak.int .i64) v6])] b9 fN ⟨rfl,rfl,.one rfl,rfl,trivial⟩ ⟨rfl,trivial⟩ ⟨.refl _,.refl _,trivial⟩<|.ah (vy e17) ⟨rfl,trivial⟩ trivial trivial<|.mv rfl<|.ext rfl rfl<|.ext rfl rfl<|.ao rfl<|.ao rfl<|.nil) rfl ?_;obtain⟨o18,hp19,h⟩:=bind_some h;refine .cz (fun i=>o18=Ex.cp i) (fun(i:Unit)=>[(4,D.ref 4 0),(5,an (ak.int .i64) v5),(6,an (ak.int .i64) v6)]) (fun(i:Unit)=>[(4,Hp.box 35 ([D.bool false,D.nil]))]) ?_ ?_
   ·have ho2:=h;have h:=hp19;by_cases c20:v13=true
    ·replace h:=ab c20 h;refine .al (.mv rfl<|.mv rfl<|.gy c20<|.mv rfl<|.bm rfl c20 rfl<|.nil) rfl ?_;by_cases c21:v16=true
     ·replace h:=ab c21 h;refine .cq rfl c21 ?_;obtain⟨v30,hl25,h⟩:=bind_some h;refine .cz (fun i=>v30=i) (fun(i:Int)=>[(4,D.ref 4 0),(7,D.int .i64 i)]) (fun(i:Int)=>[(4,Hp.box 35 ([D.bool false,D.nil]))]) ?_ ?_
      ·have ho3:=h;refine .block (.cc (fun(s:Int×Int)=>[(4,D.ref 4 0),(7,D.int .i64 s.1),(9,D.int .i64 s.2)]) (fun(s:Int×Int)=>[(4,Hp.box 35 ([D.bool false,D.nil]))]) hl25 (.of rfl) (.of rfl) rfl rfl ?_);rintro⟨v22,v23⟩ st26 hb27;have h:jW v22 v23=some st26:=hb27;unfold jW at h
       try dsimp only
       refine .sq ?_;refine .al (.mv rfl<|.cm rfl rfl rfl<|.nil) rfl ?_;by_cases c28:(v23 !=0)=true
       ·replace h:=ab c28 h;refine .cq rfl c28 ?_;refine .skip (Ok.on ?_);refine .block ?_;obtain⟨k29,h⟩:=ax h;refine .de cn (.mv rfl<|.mv rfl<|.mv rfl<|.ar rfl rfl (A9 k29)<|.ao rfl<|.ao rfl<|.nil) rfl (by kernel_rfl) (fun _ _ hs=>⟨(v23,(Int.tmod v22 v23)),(sj h),hs.sub (.of rfl) (.of rfl) rfl rfl⟩)
       ·replace h:=ae c28 h;refine .cA rfl c28 ?_;refine .exit (fun _ _ hs=>⟨_,(sj h),fun e=>⟨v22,e.symm,hs.sub (.of rfl) (.of rfl) rfl rfl⟩⟩)
      ·rintro _ rfl
       try dsimp only
       obtain⟨⟨v31,v32⟩,e33,h⟩:=bind_some h;refine .al (.mv rfl<|.ah (nV e33) ⟨rfl,trivial⟩ trivial trivial<|.cH ([D.bool v31,an (ak.int .i64) v32]) rfl rfl rfl aF rfl rfl rfl<|.nil) rfl ?_;cases h;have h:=ho2;refine .aN (Hi:=[]) (Ho:=[]) (b:=b) (fn:=Go.Proofs.Tryz.f220) (d:=D.agg ([D.bool v31,an (ak.int .i64) v32])) (fun _ _ hb=>by exact⟨_,(sj h),fun e=>by subst e;have h:=ho1;cases h;exact hb⟩) rfl (.cons (.agg rfl rfl aF rfl) .nil) (.refl _) trivial trivial
     ·replace h:=ae c21 h;refine .cA rfl c21 ?_;refine .skip (fun _ _ hs=>⟨(),(sj h),hs.sub (.of rfl) (.of rfl) rfl rfl⟩)
    ·replace h:=ae c20 h;refine .al (.mv rfl<|.mv rfl<|.gm c20<|.bh rfl c20 rfl<|.nil) rfl ?_;refine .cA rfl (by decide) ?_;refine .skip (fun _ _ hs=>⟨(),(sj h),hs.sub (.of rfl) (.of rfl) rfl rfl⟩)
   ·rintro⟨⟩ rfl
    try dsimp only
    obtain⟨⟨v34,v35⟩,e36,h⟩:=bind_some h;refine .al (.mv rfl<|.mv rfl<|.ah (tL e36) ⟨rfl,rfl,trivial⟩ trivial trivial<|.mv rfl<|.ext rfl rfl<|.ext rfl rfl<|.ao rfl<|.ao rfl<|.nil) rfl ?_;refine .region (.mv rfl<|.mv rfl<|.ao rfl<|.ao rfl<|.nil) rfl (fun _ _ hs=>⟨(v6,v35),(sj h),hs.sub (.of rfl) (.of rfl) rfl rfl⟩)
  ·replace h:=ae c11 h;refine .cA rfl c11 ?_;refine .exit (fun _ _ hs=>⟨_,(sj h),fun e=>⟨v5,e.symm,hs.sub (.of rfl) (.of rfl) rfl rfl⟩⟩)
 ·rintro v39 rfl
  try dsimp only
  refine .al (.mv rfl<|.pC ([D.bool false,an (ak.int .i64) v39]) [(1,_,an (ak.int .i64) v39,[an (ak.int .i64) v39])] b9 fN ⟨rfl,rfl,.one rfl,rfl,trivial⟩ ⟨rfl,trivial⟩ ⟨.refl _,.refl _,trivial⟩<|.cH ([D.bool false,an (ak.int .i64) v39]) rfl rfl rfl aF rfl rfl rfl<|.nil) rfl ?_;cases h;refine .aN (fun _ _ hb=>hb) rfl (.cons (.agg rfl rfl aF rfl) .nil) (.refl _) trivial trivial
end
end Go.Am
namespace Go.Am
open Go.RowKit
theorem eV(x i:Nat):x/10000^(i+1)=x/10000^i/10000:=by rw[Nat.pow_succ,Nat.div_div_eq_div_mul]
theorem mx(i:Nat):0<10000^i:=Nat.pow_pos (by decide)
theorem kj:∀(i x:Nat),i<(aD x).length↔x/10000^i≠0
 |i,x=>by
  by_cases h:x=0
  ·subst h;rw[dP,Nat.zero_div];simp
  ·rw[jX h,List.length_cons]
   cases i with
   |zero=>simp[h]
   |succ i=>
    have:=kj i (x/10000);rw[Nat.div_div_eq_div_mul,Nat.mul_comm,←Nat.pow_succ]at this;rw[←this];omega
theorem yI:∀(i x:Nat),i<(aD x).length->(aD x)[i]?=some ((x/10000^i%10000:Nat):Int)
 |i,x,h=>by
  have h0:x≠0:=by intro e;subst e;rw[dP]at h;simp at h
  rw[jX h0]at h|-
  cases i with
  |zero=>simp
  |succ i=>
   rw[List.getElem?_cons_succ,yI i (x/10000) (by simpa using h),Nat.div_div_eq_div_mul,Nat.mul_comm,←Nat.pow_succ]
theorem mN{i x:Nat}(h:i<(aD x).length):ix (aD x) (i:Int)=some ((x/10000^i%10000:Nat):Int):=by
 unfold ix;rw[if_pos (by omega),Int.toNat_natCast,yI i x h]
theorem my(x:Nat):x/10000^(aD x).length=0:=by
 have:=(kj (aD x).length x);simp only[Nat.lt_irrefl,false_iff,ne_eq,Classical.not_not]at this;exact this
theorem lj(x:Nat):x<10000^(aD x).length:=by
 have:=my x;rw[Nat.div_eq_zero_iff]at this;rcases this with h|h
 ·exact absurd h (Nat.ne_of_gt (mx _))
 ·exact h
theorem rB{x n:Nat}(h:x<10000^n):(aD x).length<=n:=by
 apply Nat.le_of_not_lt;intro hc;exact(kj n x).1 hc (Nat.div_eq_of_lt h)
theorem AR{x n:Nat}(h:n<(aD x).length):10000^n<=x:=by
 have:=(kj n x).1 h;apply Nat.le_of_not_lt;intro hc;exact this (Nat.div_eq_of_lt hc)
theorem vx(x:Nat):(aD x).length<=bz x:=by
 apply rB;refine Nat.lt_of_lt_of_le (mF x) (Nat.pow_le_pow_left (by decide) _)
theorem gD{x:Nat}(h:sm x):(aD x).length<=4398046511104:=Nat.le_trans (vx x) h
theorem vY{x:Nat}:(aD x).length=0↔x=0:=by
 constructor
 ·intro h;have:=lj x;rw[h]at this;simpa using this
 ·rintro rfl;rw[dP];rfl
def v10:List Int->Int
 |[]=>0
 |d::l=>d+10000*v10 l
def jg(l:List Int):Prop:=∀d∈l,0<=d/\d<10000
theorem pR:jg []:=by intro d h;cases h
theorem dt{d:Int}{l:List Int}:jg (d::l)↔(0<=d/\d<10000)/\jg l:=by simp[jg]
theorem rW{l m:List Int}:jg (l++m)↔jg l/\jg m:=by
 simp only[jg,List.mem_append];constructor
 ·exact fun h=>⟨fun d k=>h d (.inl k),fun d k=>h d (.inr k)⟩
 ·rintro⟨h,k⟩ d (hd|hd)
  ·exact h d hd
  ·exact k d hd
theorem As:∀x,jg (aD x)
 |x=>by
  by_cases h:x=0
  ·subst h;rw[dP];exact pR
  ·rw[jX h,dt];exact⟨by omega,As (x/10000)⟩
termination_by x=>x
decreasing_by exact Nat.div_lt_self (by omega) (by omega)
theorem tZ:∀x:Nat,v10 (aD x)=x
 |x=>by
  by_cases h:x=0
  ·subst h;rw[dP];rfl
  ·rw[jX h,v10,tZ (x/10000)];omega
termination_by x=>x
decreasing_by exact Nat.div_lt_self (by omega) (by omega)
theorem pg:∀{l:List Int},jg l->0<=v10 l
 |[],_=>by simp[v10]
 |d::l,h=>by
  have:=pg (dt.1 h).2;have:=(dt.1 h).1;rw[v10];omega
theorem oZ:∀(l m:List Int),v10 (l++m)=v10 l+((10000^l.length:Nat):Int)*v10 m
 |[],m=>by simp[v10]
 |d::l,m=>by
  rw[List.cons_append,v10,oZ l m,v10,List.length_cons,Nat.pow_succ,Nat.mul_comm (10000^l.length),Int.natCast_mul,Int.mul_add,Int.mul_assoc,Int.add_assoc];rfl
theorem Cy:∀{l:List Int},jg l->v10 l<((10000^l.length:Nat):Int)
 |[],_=>by simp[v10]
 |d::l,h=>by
  have h1:=Cy (dt.1 h).2;have:=(dt.1 h).1;rw[v10,List.length_cons,Nat.pow_succ];generalize 10000^l.length=p at*;omega
theorem wW:∀n,v10 (List.replicate n 0)=0
 |0=>rfl
 |n+1=>by rw[List.replicate_succ,v10,wW n];rfl
theorem xu(n:Nat):jg (List.replicate n 0):=by
 intro d h;have:=List.eq_of_mem_replicate h;omega
theorem ux:∀{l:List Int} {k:Nat} {d:Int},jg l->0<=d->d<10000->jg (l.set k d)
 |[],_,_,h,_,_=>h
 |e::l,0,d,h,h1,h2=>dt.2 ⟨⟨h1,h2⟩,(dt.1 h).2⟩
 |e::l,k+1,d,h,h1,h2=>dt.2 ⟨(dt.1 h).1,ux (dt.1 h).2 h1 h2⟩
theorem xb:∀{l:List Int} {k:Nat} {d:Int} (h:k<l.length),v10 (l.set k d)=v10 l+((10000^k:Nat):Int)*(d-l[k])
 |[],k,_,h=>by simp at h
 |e::l,0,d,h=>by simp only[List.set_cons_zero,v10,Nat.pow_zero,List.getElem_cons_zero];omega
 |e::l,k+1,d,h=>by
  have:=xb (l:=l) (k:=k) (d:=d) (by simpa using h);simp only[List.set_cons_succ,v10,List.getElem_cons_succ];rw[this,Nat.pow_succ,Nat.mul_comm (10000^k),Int.natCast_mul,Int.mul_add,Int.mul_assoc];omega
theorem x7:∀{l:List Int},jg l->(∀d,l.getLast?=some d->d≠0)->aD (v10 l).toNat=l
 |[],_,_=>by rw[v10];exact dP
 |[d],h,hl=>by
  have h0:=hl d rfl;have h1:=(dt.1 h).1;have e:(v10 [d]).toNat=d.toNat:=by simp[v10]
  rw[e,jX (by omega),Nat.div_eq_of_lt (by omega),dP,Nat.mod_eq_of_lt (by omega)]
  congr 1;omega
 |d::e::l,h,hl=>by
  have h1:=(dt.1 h).1;have h2:=(dt.1 h).2;have ih:=x7 h2 (fun d hd=>hl d (by rw[List.getLast?_cons_cons];exact hd));have hp:(v10 (e::l)).toNat≠0:=by
   intro h0;rw[h0,dP]at ih;cases ih
  have hn:=pg h2;rw[v10];generalize v10 (e::l)=w at*;have e1:(d+10000*w).toNat=d.toNat+10000*w.toNat:=by omega
  rw[e1,jX (by omega)];have e2:(d.toNat+10000*w.toNat)/10000=w.toNat:=by omega
  have e3:(((d.toNat+10000*w.toNat)%10000:Nat):Int)=d:=by omega
  rw[e2,e3,ih]
theorem uH{l:List Int}(h:l≠[])(hz:l[l.length-1]?=some 0):v10 (l.take (l.length-1))=v10 l:=by
 have hl:0<l.length:=List.length_pos_iff.2 h;have e:l=l.take (l.length-1)++[0]:=by
  have:=List.take_append_drop (l.length-1) l
  conv=>lhs;rw[←this]
  congr 1
  rw[List.drop_eq_getElem_cons (by omega)];rw[List.getElem?_eq_getElem (by omega)]at hz;injection hz with hz;rw[hz,List.drop_eq_nil_of_le (by omega)]
 conv=>rhs;rw[e]
 rw[oZ];simp[v10]
theorem su(l:List Int)(h:jg l)(hl:l.length<=9000000000000000):iY l=some (aD (v10 l).toNat):=by
 unfold iY;obtain⟨r,hr,rfl⟩:=bZ (body:=fun(s:(List Int))=>j1 s) l (fun s=>jg s/\v10 s=v10 l/\s.length<=l.length) (fun s=>s.length) (fun r=>r=aD (v10 l).toNat) ⟨h,rfl,Nat.le_refl _⟩ (by
  rintro s ⟨hs,hv,hsl⟩;unfold j1;by_cases h0:s.length=0
  ·right
   have:s=[]:=List.length_eq_zero_iff.1 h0;subst this;rw[if_neg (by decide)];refine⟨[],rfl,?_⟩;rw[←hv];exact dP.symm
  ·rw[if_pos (decide_eq_true (by omega))];have e1:IntKind.i64.wrap ((s.length:Int)-1)=((s.length-1:Nat):Int):=by rw[wrap_small (by omega) (by omega)];omega
   rw[e1,dT (by omega),Option.bind_some];by_cases hz:s[s.length-1]=0
   ·left
    rw[if_pos (by rw[beq_iff_eq];exact hz)];refine⟨_,cG ⟨by omega,by omega⟩ rfl,⟨?_,?_,?_⟩,?_⟩
    ·rw[Int.toNat_natCast];exact fun d hd=>hs d (List.mem_of_mem_take hd)
    ·rw[Int.toNat_natCast,uH (by intro e;rw[e]at h0;exact h0 rfl) (by rw[List.getElem?_eq_getElem (by omega),hz]),hv]
    ·rw[Int.toNat_natCast,List.length_take];omega
    ·rw[Int.toNat_natCast,List.length_take];omega
   ·right
    rw[if_neg (by rw[beq_iff_eq];exact hz)];refine⟨s,rfl,?_⟩;rw[←hv];refine(x7 hs ?_).symm;intro d hd;rw[List.getLast?_eq_getElem?,List.getElem?_eq_getElem (by omega)]at hd;injection hd with hd;rw[←hd];exact hz)
 rw[hr];rfl
end Go.Am
namespace Go.Am
open Go.RowKit
theorem FN{x i:Nat}(h:i<(aD x).length){j:Int}(hj:j=(i:Int)):ix (aD x) j=some ((x/10000^i%10000:Nat):Int):=by rw[hj,mN h]
theorem i64_in{n:Int}(h:-9223372036854775808<=n/\n<9223372036854775808):IntKind.i64.wrap n=n:=wrap_small h.1 h.2
theorem pH(n:Int)(h:eM n):gp n=some (decide (n<0),aD n.natAbs):=by
 unfold gp;obtain⟨r,hr,rfl⟩:=bZ (body:=fun(s:Int×(List Int))=>jY s.1 s.2) (n,[]) (fun s=>eM s.1/\s.2++aD s.1.natAbs=aD n.natAbs) (fun s=>s.1.natAbs) (fun r=>r=aD n.natAbs) ⟨h,rfl⟩ (by
  rintro⟨x,b⟩ ⟨hx,hb⟩;simp only at hx hb|-;unfold jY;unfold eM at hx;by_cases h0:x=0
  ·right
   subst h0;refine⟨b,rfl,?_⟩;rw[show Int.natAbs 0=0 from rfl,dP,List.append_nil]at hb;exact hb
  ·left
   have hc:(x !=0)=true:=by rw[bne_iff_ne];exact h0
   rw[if_pos hc];have e1:Int.tmod x 10000=if x<0 then-((x.natAbs%10000:Nat):Int)else((x.natAbs%10000:Nat):Int):=by
    by_cases hn:x<0
    ·rw[if_pos hn];have:x=-(x.natAbs:Int):=by omega
     conv=>lhs;rw[this]
     rw[Int.neg_tmod,Int.tmod_eq_emod_of_nonneg (by omega)];omega
    ·rw[if_neg hn,Int.tmod_eq_emod_of_nonneg (by omega)];omega
   have e2:Int.tdiv x 10000=if x<0 then-((x.natAbs/10000:Nat):Int)else((x.natAbs/10000:Nat):Int):=by
    by_cases hn:x<0
    ·rw[if_pos hn];have:x=-(x.natAbs:Int):=by omega
     conv=>lhs;rw[this]
     rw[Int.neg_tdiv,Int.tdiv_eq_ediv_of_nonneg (by omega)];omega
    ·rw[if_neg hn,Int.tdiv_eq_ediv_of_nonneg (by omega)];omega
   have hd:(if(decide ((Int.tmod x 10000)<0))=true then some ((IntKind.i64.wrap (0-(Int.tmod x 10000))))else some ((Int.tmod x 10000)))=some ((x.natAbs%10000:Nat):Int):=by
    rw[e1];by_cases hn:x<0
    ·rw[if_pos hn];by_cases hz:x.natAbs%10000=0
     ·rw[hz];rfl
     ·rw[if_pos (decide_eq_true (by omega)),i64_in (by omega)];congr 1;omega
    ·rw[if_neg hn,if_neg (by simp;omega)]
   rw[hd,Option.bind_some];have e3:IntKind.i64.wrap (Int.tdiv x 10000)=Int.tdiv x 10000:=by rw[e2,i64_in];split<;>omega
   have hx0:x.natAbs≠0:=by omega
   have e4:(Int.tdiv x 10000).natAbs=x.natAbs/10000:=by rw[e2];split<;>omega
   rw[jX hx0]at hb;have hbl:b.length+1<=9223372036854:=by
    have h1:=congrArg List.length hb;rw[List.length_append,List.length_cons]at h1;have h2:=vx n.natAbs;have h3:bz n.natAbs<=64:=dS (by unfold eM at h;omega);omega
   rw[e3];refine⟨_,cG ⟨by simp only[List.length_cons,List.length_nil];omega,by simp only[List.length_cons,List.length_nil];omega⟩ rfl,⟨?_,?_⟩,?_⟩
   ·simp only;rw[e2];unfold eM;split<;>omega
   ·simp only;rw[e4,←hb,List.append_assoc];rfl
   ·simp only;rw[e4];exact Nat.div_lt_self (by omega) (by decide))
 rw[hr];rfl
theorem DN{X Y:Nat}(h:X/10000=Y/10000):((X%10000:Nat):Int)<((Y%10000:Nat):Int)↔X<Y:=by omega
theorem Gd(x y:Nat)(hx:sm x)(hy:sm y):pO (aD x) (aD y)=some (fR x y):=by
 have lx:=gD hx;have ly:=gD hy;unfold pO;by_cases hl:(((aD x).length:Int) !=((aD y).length:Int))=true
 ·rw[if_pos hl];rw[bne_iff_ne]at hl;by_cases hlt:(aD x).length<(aD y).length
  ·rw[if_pos (decide_eq_true (by omega))];have h1:=lj x;have h2:=AR hlt;unfold fR;rw[if_pos (by omega)]
  ·rw[if_neg (by simp;omega)];have h1:=lj y;have h2:=AR (show(aD y).length<(aD x).length by omega);unfold fR;rw[if_neg (by omega),if_pos (by omega)]
 ·rw[if_neg hl];have hle:(aD x).length=(aD y).length:=by
   rw[bne_iff_ne,ne_eq,Classical.not_not]at hl;omega
  have e1:IntKind.i64.wrap (((aD x).length:Int)-1)=((aD x).length:Int)-1:=i64_in (by omega);rw[e1];obtain⟨r,hr,hq⟩:=bZ (body:=fun(s:Int)=>kC (aD x) (aD y) s) (((aD x).length:Int)-1) (fun s=>∃k:Nat,s=(k:Int)-1/\k<=(aD x).length/\x/10000^k=y/10000^k) (fun s=>(s+1).toNat) (fun r=>(x=y/\r=Ex.cp ())\/(x≠y/\r=Ex.ret (fR x y))) ⟨_,rfl,Nat.le_refl _,by rw[my,hle,my]⟩ (by
   rintro s ⟨k,rfl,hk,he⟩;unfold kC
   cases k with
   |zero=>
    right
    rw[if_neg (by simp)];refine⟨_,rfl,.inl ⟨?_,rfl⟩⟩;simpa using he
   |succ k=>
    have ek:((k+1:Nat):Int)-1=(k:Int):=by omega
    rw[ek,if_pos (decide_eq_true (by omega)),FN (by omega) rfl,Option.bind_some,FN (by omega) rfl,Option.bind_some];rw[eV,eV]at he;have hmx:=Nat.div_add_mod x (10000^k);have hmy:=Nat.div_add_mod y (10000^k);have hlx:=Nat.mod_lt x (mx k);have hly:=Nat.mod_lt y (mx k);have hmono:∀a b:Nat,a/10000^k<b/10000^k->a<b:=by
     intro a b h;apply Nat.lt_of_not_le;intro hc;exact Nat.lt_irrefl _ (Nat.lt_of_lt_of_le h (Nat.div_le_div_right hc))
    by_cases hd:x/10000^k=y/10000^k
    ·left
     rw[if_neg (by rw[hd];simp)];refine⟨_,rfl,⟨k,?_,by omega,hd⟩,?_⟩
     ·exact i64_in (by omega)
     ·rw[i64_in (by omega)];omega
    ·right
     have hne:x≠y:=fun h=>hd (by rw[h]);have hnd:x/10000^k%10000≠y/10000^k%10000:=by
      intro h;apply hd;omega
     rw[if_pos (by rw[bne_iff_ne];omega),Option.bind_some,Option.bind_some];by_cases hlt:x/10000^k<y/10000^k
     ·rw[if_pos (decide_eq_true ((DN he).2 hlt))];refine⟨_,rfl,.inr ⟨hne,?_⟩⟩;have:=hmono _ _ hlt;unfold fR;rw[if_pos this]
     ·rw[if_neg (fun h=>hlt ((DN he).1 (of_decide_eq_true h)))];refine⟨_,rfl,.inr ⟨hne,?_⟩⟩;have:=hmono y x (Nat.lt_of_le_of_ne (Nat.le_of_not_lt hlt) (Ne.symm hd));unfold fR;rw[if_neg (by omega),if_pos this])
  rw[hr];rcases hq with⟨h,rfl⟩|⟨h,rfl⟩
  ·subst h;simp only[Option.bind_some,fR];simp
  ·rfl
end Go.Am
namespace Go.Am
open Go.RowKit
theorem zd(dx dy out:List Int)(w i X Y:Nat)(T P:Int)(hw:w<=1)(gx:i<dx.length↔X≠0)(gy:i<dy.length↔Y≠0)(ex:i<dx.length->ix dx (i:Int)=some ((X%10000:Nat):Int))(ey:i<dy.length->ix dy (i:Int)=some ((Y%10000:Nat):Int))
  (lt:dx.length<=4398046511105)(hP:P=((10000^i:Nat):Int))(hV:v10 out+P*((X:Int)-Y-w)=T)(hok:jg out)(hl:out.length=i)(hi:i<dx.length):
  ∃w' d,fG dx dy (w:Int) (i:Int) out=some (.next (((w':Nat):Int),((i+1:Nat):Int),out++[d]))/\w'<=1/\v10 (out++[d])+P*10000*(((X/10000:Nat):Int)-((Y/10000:Nat):Int)-w')=T/\jg (out++[d])/\(out++[d]).length=i+1:=by
 unfold fG;have hi':(i:Int)<(dx.length:Int):=by omega
 rw[if_pos (decide_eq_true hi'),ex hi,Option.bind_some];have e1:(if(decide ((i:Int)<(dy.length:Int)))=true then(ix dy (i:Int)).bind fun v18=>some ((IntKind.i64.wrap ((IntKind.i64.wrap (((X%10000:Nat):Int)-(w:Int)))-v18)))else some ((IntKind.i64.wrap (((X%10000:Nat):Int)-(w:Int)))))=some (((X%10000:Nat):Int)-(w:Int)-((Y%10000:Nat):Int)):=by
  have e0:IntKind.i64.wrap (((X%10000:Nat):Int)-(w:Int))=((X%10000:Nat):Int)-(w:Int):=i64_in (by omega);by_cases h1:i<dy.length
  ·rw[if_pos (decide_eq_true (by omega)),ey h1,Option.bind_some,e0,i64_in (by omega)]
  ·have h3:Y=0:=Classical.byContradiction fun h=>h1 (gy.2 h);rw[if_neg (by simp;omega),e0,h3];congr 1;omega
 rw[e1,Option.bind_some];have hol:=hl;have key:∀(w':Nat) (d:Int),(X:Int)-Y-w=d+10000*(((X/10000:Nat):Int)-((Y/10000:Nat):Int)-w')->v10 (out++[d])+P*10000*(((X/10000:Nat):Int)-((Y/10000:Nat):Int)-w')=T:=by
  intro w' d h;rw[h]at hV;rw[oZ,hl,←hP,←hV,Int.mul_add,Int.mul_assoc];rw[show v10 [d]=d from by simp[v10],Int.add_assoc]
 have hm:∀d:Int,(out.length+([d]).length)*8<=140737488355328/\out.length+([d]).length<=9223372036854775807:=by
  intro d;simp only[List.length_cons,List.length_nil];omega
 have e5:IntKind.i64.wrap ((i:Int)+1)=((i+1:Nat):Int):=by rw[i64_in (by omega)];omega
 by_cases hn:((X%10000:Nat):Int)-(w:Int)-((Y%10000:Nat):Int)<0
 ·rw[if_pos (decide_eq_true hn),Option.bind_some];dsimp only;have e6:IntKind.i64.wrap (((X%10000:Nat):Int)-(w:Int)-((Y%10000:Nat):Int)+10000)=((X%10000:Nat):Int)-(w:Int)-((Y%10000:Nat):Int)+10000:=i64_in (by omega);rw[e5,e6];refine⟨1,_,cG (hm _) rfl,by omega,key _ _ (by omega),?_,by simp[hl]⟩;rw[rW,dt];exact⟨hok,⟨by omega,by omega⟩,pR⟩
 ·rw[if_neg (by simpa using hn),Option.bind_some];dsimp only;rw[e5];refine⟨0,_,cG (hm _) rfl,by omega,key _ _ (by omega),?_,by simp[hl]⟩;rw[rW,dt];exact⟨hok,⟨by omega,by omega⟩,pR⟩
theorem yE(x y:Nat)(hx:sm x)(hyx:y<=x):ks (aD x) (aD y)=some (aD (x-y)):=by
 have lx:(aD x).length<=4398046511104:=gD hx;unfold ks;obtain⟨r,hr,hq⟩:=bZ (body:=fun(s:Int×Int×(List Int))=>fG (aD x) (aD y) s.1 s.2.1 s.2.2) (0,0,[])
  (fun s=>∃w i:Nat,s.1=(w:Int)/\s.2.1=(i:Int)/\w<=1/\i<=(aD x).length/\v10 s.2.2+((10000^i:Nat):Int)*(((x/10000^i:Nat):Int)-((y/10000^i:Nat):Int)-w)=(x:Int)-y/\jg s.2.2/\s.2.2.length=i)
  (fun s=>((aD x).length-s.2.1).toNat) (fun r=>jg r/\v10 r=(x:Int)-y/\r.length=(aD x).length) ⟨0,0,rfl,rfl,by decide,Nat.zero_le _,by simp[v10],pR,rfl⟩ (by
  rintro⟨w',i',out⟩ ⟨w,i,hw,hi,hw1,hi1,hV,hok,hl⟩;simp only at hw hi hV hok hl|-;subst hw;subst hi;by_cases hlt:i<(aD x).length
  ·left
   obtain⟨w2,d,e,h1,h2,h3,h4⟩:=zd (aD x) (aD y) out w i _ _ _ _ hw1 (kj i x) (kj i y) (fun h=>mN h) (fun h=>mN h) (Nat.le_trans lx (by decide)) rfl hV hok hl hlt;refine⟨_,e,⟨w2,i+1,rfl,rfl,h1,hlt,?_,h3,h4⟩,?_⟩
   ·simp only;rw[eV,eV,Nat.pow_succ,Int.natCast_mul];exact h2
   ·simp only;omega
  ·right
   have hX:x/10000^i=0:=Classical.byContradiction fun h=>hlt ((kj i x).2 h);have hY:y/10000^i=0:=Nat.le_zero.1 (hX▸Nat.div_le_div_right hyx);unfold fG;rw[if_neg (by simp;omega)];refine⟨_,rfl,hok,?_,by omega⟩;rw[hX,hY]at hV;have hb:=Cy hok;rw[hl]at hb;have:w=0:=by
    apply Classical.byContradiction;intro h;have:w=1:=by omega
    subst this;generalize ((10000^i:Nat):Int)=P at*;omega
   subst this;generalize ((10000^i:Nat):Int)=P at*;omega)
 obtain⟨h1,h2,h3⟩:=hq;rw[hr];simp only[Option.bind_some];rw[su r h1 (by rw[h3];exact Nat.le_trans lx (by decide)),h2,Option.bind_some]
 congr 2;omega
theorem yT(dx dy out:List Int)(i j c y T:Nat)(D:Nat)(hD:D<10000)(hc:c<10000)(lx:dx.length<=4398046511105)(ly:dy.length<=4398046511105)(hi:i<dx.length)(ex:ix dx (i:Int)=some (D:Int))
  (hdy:dy=aD y)(hok:jg out)(hol:out.length=dx.length+dy.length)(hT:T<10000^(i+1+dy.length))
  (hV:v10 out+((10000^(i+j)*(c+D*(y/10000^j)):Nat):Int)=(T:Int)):
  (∃c' out',fC dx dy (i:Int) (c:Int) (j:Int) out=some (.next (((c':Nat):Int),((j+1:Nat):Int),out'))/\c'<10000/\j+1<=dy.length+1/\jg out'/\out'.length=out.length/\v10 out'+((10000^(i+(j+1))*(c'+D*(y/10000^(j+1))):Nat):Int)=(T:Int))\/
  (fC dx dy (i:Int) (c:Int) (j:Int) out=some (.done out)/\v10 out=(T:Int)):=by
 have gy:=kj j y;rw[←hdy]at gy;unfold fC;by_cases hz:y/10000^j=0/\c=0
 ·right
  obtain⟨h1,rfl⟩:=hz;have h3:¬j<dy.length:=fun h=>gy.1 h h1;rw[if_neg (by simp;omega),if_neg (by decide),Option.bind_some];refine⟨rfl,?_⟩;rw[h1]at hV;simpa using hV
 ·left
  have hgo:(if(decide ((j:Int)<(dy.length:Int)))=true then some (Ex.cp ())else(if(decide ((c:Int)>0))=true then some (Ex.cp ())else some (Ex.ret ())):Option (Ex Unit Unit))=some (Ex.cp ()):=by
   by_cases h1:j<dy.length
   ·rw[if_pos (decide_eq_true (by omega))]
   ·rw[if_neg (by simp;omega),if_pos (decide_eq_true ?_)];have h3:y/10000^j=0:=Classical.byContradiction fun h=>h1 (gy.2 h);have:c≠0:=fun h=>hz ⟨h3,h⟩;omega
  rw[hgo,Option.bind_some];dsimp only;have hn:=pg hok;have hpos:0<c+D*(y/10000^j)\/(j<dy.length):=by
   by_cases h1:j<dy.length
   ·right;exact h1
   ·left
    have h3:y/10000^j=0:=Classical.byContradiction fun h=>h1 (gy.2 h);have:c≠0:=fun h=>hz ⟨h3,h⟩;omega
  have hj:j<dy.length+1/\i+j<dx.length+dy.length:=by
   rcases hpos with h|h
   ·have h1:10000^(i+j)<=T:=by
     have:=Nat.mul_le_mul_left (10000^(i+j)) h;rw[Nat.mul_succ,Nat.mul_zero,Nat.zero_add]at this;omega
    have h2:i+j<i+1+dy.length:=(Nat.pow_lt_pow_iff_right (by decide)).1 (Nat.lt_of_le_of_lt h1 hT);omega
   ·omega
  have ew:IntKind.i64.wrap ((i:Int)+(j:Int))=((i+j:Nat):Int):=by rw[i64_in (by omega)];omega
  have hlt:i+j<out.length:=by omega
  rw[ew,dT hlt,Option.bind_some];have ho:=hok _ (List.getElem_mem hlt);obtain⟨o,hoo⟩:∃o:Nat,out[i+j]=(o:Int):=⟨out[i+j].toNat,by omega⟩;have hset:∀d,v10 (out.set (i+j) d)=v10 out+((10000^(i+j):Nat):Int)*(d-(o:Int)):=fun d=>by rw[xb hlt,hoo]
  rw[hoo]at ho|-;have hprod:D*(y/10000^j%10000)<=9999*9999:=Nat.mul_le_mul (by omega) (by omega);have e1:(if(decide ((j:Int)<(dy.length:Int)))=true then(ix dx (i:Int)).bind fun v31=>(ix dy (j:Int)).bind fun v33=>some ((IntKind.i64.wrap ((IntKind.i64.wrap ((o:Int)+(c:Int)))+(IntKind.i64.wrap (v31*v33)))))else some ((IntKind.i64.wrap ((o:Int)+(c:Int)))))=some ((o+c+D*(y/10000^j%10000):Nat):Int):=by
   have e0:IntKind.i64.wrap ((o:Int)+(c:Int))=((o+c:Nat):Int):=by rw[i64_in (by omega)];omega
   rw[e0];by_cases h1:j<dy.length
   ·have hiy:ix dy (j:Int)=some ((y/10000^j%10000:Nat):Int):=by rw[hdy]at h1|-;exact mN h1
    rw[if_pos (decide_eq_true (by omega)),ex,hiy,Option.bind_some,Option.bind_some,←Int.natCast_mul];generalize D*(y/10000^j%10000)=Q at*;rw[i64_in (n:=(Q:Int)) (by omega),i64_in (by omega)];congr 1
   ·have h3:y/10000^j=0:=Classical.byContradiction fun h=>h1 (gy.2 h);rw[if_neg (by simp;omega),h3];simp
  rw[e1,Option.bind_some,Option.bind_some];have hdm:D*(y/10000^j)=D*(y/10000^j%10000)+10000*(D*(y/10000^(j+1))):=by
   rw[eV,←Nat.mul_assoc,Nat.mul_comm 10000 D,Nat.mul_assoc,←Nat.mul_add,Nat.mod_add_div]
  have hS:o+c+D*(y/10000^j%10000)<100000000:=by omega
  generalize hSe:o+c+D*(y/10000^j%10000)=S at*;have e3:Int.tmod (S:Int) 10000=((S%10000:Nat):Int):=by
   rw[Int.tmod_eq_emod_of_nonneg (by omega)];omega
  have e4:IntKind.i64.wrap (Int.tdiv (S:Int) 10000)=((S/10000:Nat):Int):=by
   rw[Int.tdiv_eq_ediv_of_nonneg (by omega),i64_in (by omega)];omega
  have e5:IntKind.i64.wrap ((j:Int)+1)=((j+1:Nat):Int):=by rw[i64_in (by omega)];omega
  rw[e3,e4,e5,Int.toNat_natCast];refine⟨_,_,rfl,by omega,by omega,ux hok (by omega) (by omega),by rw[List.length_set],?_⟩;rw[hset,←hV];have hk:c+D*(y/10000^j)+o=S%10000+10000*(S/10000+D*(y/10000^(j+1))):=by
   rw[hdm];generalize D*(y/10000^(j+1))=R at*;omega
  rw[show i+(j+1)=i+j+1 from rfl,Nat.pow_succ,Nat.mul_assoc];generalize 10000^(i+j)=P at*;generalize 10000*(S/10000+D*(y/10000^(j+1)))=U at*;generalize S%10000=s at*;generalize c+D*(y/10000^j)=C at*;have h2:P*C+P*o=P*s+P*U:=by rw[←Nat.mul_add,hk,Nat.mul_add]
  rw[Int.mul_sub,←Int.natCast_mul,←Int.natCast_mul];omega
theorem xM(x y:Nat)(hx:sm x)(hy:sm y):kr (aD x) (aD y)=some (aD (x*y)):=by
 have lx:(aD x).length<=4398046511104:=gD hx;have ly:(aD y).length<=4398046511104:=gD hy;have ew:IntKind.i64.wrap (((aD x).length:Int)+((aD y).length:Int))=(((aD x).length+(aD y).length:Nat):Int):=by rw[i64_in (by omega)];omega
 unfold kr;rw[ew,Int.toNat_natCast];refine cG ⟨by omega,by omega,by omega⟩ ?_;obtain⟨r,hr,hq⟩:=bZ (body:=fun(s:Int×(List Int))=>iP (aD x) (aD y) s.1 s.2) (0,List.replicate ((aD x).length+(aD y).length) 0)
  (fun s=>∃i:Nat,s.1=(i:Int)/\i<=(aD x).length/\jg s.2/\s.2.length=(aD x).length+(aD y).length/\v10 s.2=((x%10000^i*y:Nat):Int))
  (fun s=>((aD x).length-s.1).toNat) (fun r=>jg r/\v10 r=((x*y:Nat):Int)/\r.length=(aD x).length+(aD y).length) ⟨0,rfl,Nat.zero_le _,xu _,List.length_replicate,by simp only[];rw[wW,Nat.pow_zero,Nat.mod_one,Nat.zero_mul];rfl⟩ (by
  rintro⟨i',out⟩ ⟨i,hi,hi1,hok,hl,hV⟩;simp only at hi hok hl hV|-;subst hi;unfold iP;by_cases hlt:i<(aD x).length
  ·left
   rw[if_pos (decide_eq_true (by omega))];have hT:x%10000^(i+1)*y<10000^(i+1+(aD y).length):=by
    rw[Nat.pow_add 10000 (i+1)];exact Nat.mul_lt_mul'' (Nat.mod_lt _ (mx _)) (lj y)
   have hsplit:x%10000^(i+1)=x%10000^i+10000^i*(x/10000^i%10000):=by
    rw[Nat.pow_succ,Nat.mod_mul]
   obtain⟨r,hr,hq⟩:=bZ (body:=fun(s:Int×Int×(List Int))=>fC (aD x) (aD y) (i:Int) s.1 s.2.1 s.2.2) (0,0,out)
    (fun s=>∃c j:Nat,s.1=(c:Int)/\s.2.1=(j:Int)/\c<10000/\j<=(aD y).length+1/\jg s.2.2/\s.2.2.length=(aD x).length+(aD y).length/\v10 s.2.2+((10000^(i+j)*(c+x/10000^i%10000*(y/10000^j)):Nat):Int)=((x%10000^(i+1)*y:Nat):Int))
    (fun s=>((aD y).length+1-s.2.1).toNat) (fun r=>jg r/\r.length=(aD x).length+(aD y).length/\v10 r=((x%10000^(i+1)*y:Nat):Int))
    ⟨0,0,rfl,rfl,by decide,Nat.zero_le _,hok,hl,by
     simp only[];rw[hV,hsplit,Nat.add_zero,Nat.zero_add,Nat.pow_zero,Nat.div_one,Nat.add_mul,Nat.mul_assoc,Int.natCast_add]⟩ (by
    rintro⟨c',j',out'⟩ ⟨c,j,hc,hj,hc1,hj1,hok',hl',hV'⟩;simp only at hc hj hok' hl' hV'|-;subst hc;subst hj;rcases yT (aD x) (aD y) out' i j c y _ _ (Nat.mod_lt _ (by decide)) hc1 (Nat.le_trans lx (by decide)) (Nat.le_trans ly (by decide)) hlt (mN hlt) rfl hok' hl' hT hV' with⟨c2,out2,e,h1,h2,h3,h4,h5⟩|⟨e,h⟩
    ·left
     refine⟨_,e,⟨c2,j+1,rfl,rfl,h1,h2,h3,by simp only;omega,h5⟩,by simp only;omega⟩
    ·right
     exact⟨_,e,hok',hl',h⟩)
   obtain⟨q1,q2,q3⟩:=hq;rw[hr];simp only[Option.bind_some];have e5:IntKind.i64.wrap ((i:Int)+1)=((i+1:Nat):Int):=by rw[i64_in (by omega)];omega
   rw[e5];exact⟨_,rfl,⟨i+1,rfl,hlt,q1,q2,q3⟩,by simp only;omega⟩
  ·right
   rw[if_neg (by simp;omega)];have:i=(aD x).length:=by omega
   subst this;refine⟨_,rfl,hok,?_,hl⟩;rw[hV,Nat.mod_eq_of_lt (lj x)])
 obtain⟨h1,h2,h3⟩:=hq;rw[hr];simp only[Option.bind_some];rw[su r h1 (by rw[h3];omega),h2,Option.bind_some,Int.toNat_natCast]
end Go.Am
namespace Go.Am
open Go.RowKit
theorem um(x f:Nat)(hx:(aD x).length<=4398046511105)(hf:f<=4398046511105)(hb:x/10000^f<10000000000000000):fe (aD x) (f:Int)=some ((x/10000^f:Nat):Int):=by
 unfold fe;have e1:IntKind.i64.wrap (((aD x).length:Int)-1)=((aD x).length:Int)-1:=i64_in (by omega);rw[e1];by_cases hlf:(aD x).length<=f
 ·have hb:fx (aD x) (f:Int) 0 (((aD x).length:Int)-1)=some (.done 0):=by
   unfold fx;rw[if_neg (by simp;omega)]
  have hz:x/10000^f=0:=Classical.byContradiction fun h=>absurd ((kj f x).2 h) (by omega);rw[dQ (body:=fun(s:Int×Int)=>fx (aD x) (f:Int) s.1 s.2) hb,hz];rfl
 obtain⟨r,hr,rfl⟩:=bZ (body:=fun(s:Int×Int)=>fx (aD x) (f:Int) s.1 s.2) (0,(((aD x).length:Int)-1))
  (fun s=>∃k:Nat,s.2=(k:Int)-1/\f<=k/\k<=(aD x).length/\s.1=((x/10000^k:Nat):Int)) (fun s=>(s.2+1).toNat) (fun r=>r=((x/10000^f:Nat):Int)) ⟨_,rfl,by omega,Nat.le_refl _,by simp only[];rw[my];rfl⟩ (by
  rintro⟨v,s⟩ ⟨k,hs,hk1,hk2,hv⟩;simp only at hs hv|-;subst hs;subst hv;unfold fx;by_cases hkf:k=f
  ·right
   subst hkf;rw[if_neg (by simp;omega)];exact⟨_,rfl,rfl⟩
  ·left
   obtain⟨k,rfl⟩:∃m,k=m+1:=⟨k-1,by omega⟩;have ek:((k+1:Nat):Int)-1=(k:Int):=by omega
   have hmono:x/10000^k<=x/10000^f:=Nat.div_le_div_left (Nat.pow_le_pow_right (by decide) (by omega)) (mx f);rw[ek,if_pos (decide_eq_true (by omega)),mN (by omega),Option.bind_some,eV];generalize hX:x/10000^k=X at*;refine⟨_,rfl,⟨k,?_,by omega,by omega,?_⟩,?_⟩
   ·simp only;rw[i64_in (by omega)]
   ·simp only;rw[hX,i64_in (n:=(((X/10000:Nat)):Int)*10000) (by omega),i64_in (by omega)];omega
   ·simp only;rw[i64_in (by omega)];omega)
 rw[hr];rfl
theorem yX(y:Nat)(hy:y≠0)(hsy:sm y)(R:Nat)(hR:sm R)(hq:R/y<10000)(g:Nat)(hg:y*g<=R):
  Loop (fun(s:(List Int)×Int)=>iA (aD y) s.1 s.2) (aD (R-y*g),(g:Int))=some (aD (R%y),((R/y:Nat):Int)):=by
 obtain⟨r,hr,rfl⟩:=bZ (body:=fun(s:(List Int)×Int)=>iA (aD y) s.1 s.2) (aD (R-y*g),(g:Int))
  (fun s=>∃k:Nat,y*k<=R/\s=(aD (R-y*k),(k:Int))) (fun s=>(10000-s.2).toNat) (fun r=>r=(aD (R%y),((R/y:Nat):Int))) ⟨g,hg,rfl⟩ (by
  rintro s ⟨k,hk,rfl⟩;simp only;unfold iA;have hs:sm (R-y*k):=nn (Nat.sub_le _ _) hR;have hkq:k<=R/y:=(Nat.le_div_iff_mul_le (Nat.pos_of_ne_zero hy)).2 (by rw[Nat.mul_comm];exact hk);rw[Gd _ _ hs hsy,Option.bind_some];by_cases hc:y<=R-y*k
  ·left
   have h2:y*(k+1)<=R:=by rw[Nat.mul_succ];omega
   have hkq2:k+1<=R/y:=(Nat.le_div_iff_mul_le (Nat.pos_of_ne_zero hy)).2 (by rw[Nat.mul_comm];exact h2);rw[if_pos (decide_eq_true (tj hc)),yE _ _ hs hc,Option.bind_some];have e:IntKind.i64.wrap ((k:Int)+1)=((k+1:Nat):Int):=by rw[i64_in (by omega)];omega
   rw[e];refine⟨_,rfl,⟨k+1,h2,?_⟩,by simp only;omega⟩;rw[Nat.mul_succ,Nat.sub_sub]
  ·right
   have hcm:fR (R-y*k) y=-1:=by unfold fR;rw[if_pos (by omega)]
   rw[hcm,if_neg (by decide)];refine⟨_,rfl,?_⟩;have h3:R/y=k:=by
    apply Nat.le_antisymm _ hkq;apply Nat.le_of_lt_succ;rw[Nat.div_lt_iff_lt_mul (Nat.pos_of_ne_zero hy),Nat.succ_mul,Nat.mul_comm k y];omega
   have h4:=Nat.div_add_mod R y;rw[h3]at h4;rw[h3,show R-y*k=R%y from by omega])
 exact hr
theorem CP(y R:Nat)(hy:y≠0)(ly:(aD y).length<=4398046511104)(lR:(aD R).length<=4398046511104)(hR:R<10000*y):
  ∃g:Nat,(if(decide (((aD y).length:Int)<=3))=true then(fe (aD R) 0).bind fun v22=>(fe (aD y) 0).bind fun v24=>bO ((v24:Int)≠0) (some ((IntKind.i64.wrap (Int.tdiv v22 v24))))else(if(decide (((aD R).length:Int)>=((aD y).length:Int)))=true then(fe (aD R) (IntKind.i64.wrap (((aD y).length:Int)-3))).bind fun v28=>(fe (aD y) (IntKind.i64.wrap (((aD y).length:Int)-3))).bind fun v30=>bO (((IntKind.i64.wrap (v30+1)):Int)≠0) (some ((IntKind.i64.wrap (Int.tdiv v28 (IntKind.i64.wrap (v30+1))))))else some (0)))=some (g:Int)/\g<=R/y:=by
 have hby:=lj y;by_cases h3:(aD y).length<=3
 ·rw[if_pos (decide_eq_true (by omega))];have hy3:y<1000000000000:=Nat.lt_of_lt_of_le hby (show(10000:Nat)^(aD y).length<=10000^3 from Nat.pow_le_pow_right (by decide) h3);have e1:=um R 0 (by omega) (by omega) (by rw[Nat.pow_zero,Nat.div_one];omega);have e2:=um y 0 (by omega) (by omega) (by rw[Nat.pow_zero,Nat.div_one];omega);rw[Nat.pow_zero,Nat.div_one]at e1 e2;have e1':fe (aD R) 0=some (R:Int):=e1;have e2':fe (aD y) 0=some (y:Int):=e2;rw[e1',e2',Option.bind_some,Option.bind_some];refine⟨R/y,cG (by omega) ?_,Nat.le_refl _⟩;have hq:R/y<=R:=Nat.div_le_self _ _;rw[Int.tdiv_eq_ediv_of_nonneg (by omega),←Int.natCast_ediv];generalize R/y=q at*;rw[i64_in (by omega)]
 ·rw[if_neg (by simp;omega)];by_cases hl:(aD y).length<=(aD R).length
  ·rw[if_pos (decide_eq_true (by omega))];obtain⟨f,hf⟩:∃f,(aD y).length=f+3:=⟨(aD y).length-3,by omega⟩;have ef:IntKind.i64.wrap (((aD y).length:Int)-3)=(f:Int):=by rw[i64_in (by omega)];omega
   rw[hf,Nat.pow_add]at hby;have hp:=mx f;have h4:y/10000^f<10000^3:=Nat.div_lt_of_lt_mul hby;have h5:R/10000^f<10000^4:=by
    apply Nat.div_lt_of_lt_mul;rw[show 10000^f*10000^4=10000*(10000^f*10000^3)from by rw[←Nat.pow_add,←Nat.pow_add,←Nat.pow_succ']];omega
   have p3:(10000:Nat)^3=1000000000000:=by decide
   have p4:(10000:Nat)^4=10000000000000000:=by decide
   rw[p3]at h4;rw[p4]at h5;have hf2:f<=4398046511105:=by omega
   rw[ef,um R f (by omega) hf2 h5,um y f (by omega) hf2 (by omega),Option.bind_some,Option.bind_some];have hg:R/10000^f/(y/10000^f+1)<=R/y:=by
    rw[Nat.div_div_eq_div_mul];apply Nat.div_le_div_left _ (Nat.pos_of_ne_zero hy);have:=Nat.div_add_mod y (10000^f);have:=Nat.mod_lt y hp;rw[Nat.mul_succ];omega
   generalize R/10000^f=A at*;generalize y/10000^f=C at*;have e6:IntKind.i64.wrap ((C:Int)+1)=((C+1:Nat):Int):=by rw[i64_in (by omega)];omega
   rw[e6];refine⟨A/(C+1),cG (by omega) ?_,hg⟩;have hq:A/(C+1)<=A:=Nat.div_le_self _ _;rw[Int.tdiv_eq_ediv_of_nonneg (by omega),←Int.natCast_ediv];generalize A/(C+1)=q at*;rw[i64_in (by omega)]
  ·rw[if_neg (by simp;omega)];exact⟨0,rfl,Nat.zero_le _⟩
theorem Bx(x y i:Nat)(out:List Int)(hy:y≠0)(hx:sm x)(hsy:sm y)(hi:i<(aD x).length)(hol:out.length=(aD x).length):
  gf (aD x) (aD y) (aD (x/10000^(i+1)%y)) (i:Int) out=some (.next (aD (x/10000^i%y),(i:Int)-1,out.set i (((x/10000^i%10000+10000*(x/10000^(i+1)%y))/y:Nat):Int))):=by
 have lx:=gD hx;have ly:=gD hsy;unfold gf;rw[if_pos (decide_eq_true (by omega)),mN hi,Option.bind_some];have hXx:x/10000^i<=x:=Nat.div_le_self _ _;rw[eV];generalize x/10000^i=X at*;have hρ:X/10000%y<=X/10000:=Nat.mod_le _ _;have hρy:X/10000%y<y:=Nat.mod_lt _ (Nat.pos_of_ne_zero hy);have hmod:X%y=(X%10000+10000*(X/10000%y))%y:=by
  conv=>lhs;rw[←Nat.mod_add_div X 10000]
  rw[Nat.add_mod,Nat.mul_mod,Nat.add_mod (X%10000),Nat.mul_mod 10000 (X/10000%y),Nat.mod_mod]
 rw[hmod];generalize hr:X/10000%y=ρ at*;generalize hd:X%10000=d at*;have hd4:d<10000:=by omega
 have hRx:d+10000*ρ<=x:=by omega
 have hRs:sm (d+10000*ρ):=nn hRx hx;have lρ:(aD ρ).length<=4398046511104:=gD (nn (by omega) hRs);have htr:iY ([(d:Int)]++aD ρ)=some (aD (d+10000*ρ)):=by
  rw[su _ (by rw[List.singleton_append,dt];exact⟨⟨by omega,by omega⟩,As _⟩) (by simp only[List.length_append,List.length_cons,List.length_nil];omega)]
  congr 2
  rw[List.singleton_append,v10,tZ];omega
 rw[aG ⟨by simp only[List.length_cons,List.length_nil];omega,by simp only[List.length_cons,List.length_nil];omega⟩,htr,Option.bind_some];have hR:d+10000*ρ<10000*y:=by omega
 generalize d+10000*ρ=R at*;obtain⟨g,eg,hg⟩:=CP y R hy ly (gD hRs) hR;rw[eg,Option.bind_some];have hq:R/y<10000:=by rw[Nat.div_lt_iff_lt_mul (Nat.pos_of_ne_zero hy)];exact hR
 have hgi:eM (g:Int):=by unfold eM;omega
 rw[pH _ hgi,Option.bind_some];dsimp only;have hyg:y*g<=R:=by rw[Nat.mul_comm];exact(Nat.le_div_iff_mul_le (Nat.pos_of_ne_zero hy)).1 hg
 rw[Int.natAbs_natCast,xM y g hsy (kG (by omega)),Option.bind_some,yE R (y*g) hRs hyg,Option.bind_some,yX y hy hsy R hRs hq g hyg,Option.bind_some];dsimp only;rw[dT (by omega),Option.bind_some,i64_in (by omega),Int.toNat_natCast]
theorem wI(x y:Nat)(hy:y≠0)(hx:sm x)(hsy:sm y):kJ (aD x) (aD y)=some (aD (x/y),aD (x%y)):=by
 have lx:=gD hx;unfold kJ;refine cG ⟨by omega,by omega,by omega⟩ ?_;have e1:IntKind.i64.wrap (((aD x).length:Int)-1)=((aD x).length:Int)-1:=i64_in (by omega);rw[e1,Int.toNat_natCast];obtain⟨r,hr,hq⟩:=bZ (body:=fun(s:(List Int)×Int×(List Int))=>gf (aD x) (aD y) s.1 s.2.1 s.2.2) ([],(((aD x).length:Int)-1),List.replicate (aD x).length 0)
  (fun s=>∃k:Nat,s.2.1=(k:Int)-1/\k<=(aD x).length/\s.1=aD (x/10000^k%y)/\s.2.2.length=(aD x).length/\jg s.2.2/\(∀j,j<k->s.2.2[j]?=some 0)/\v10 s.2.2=((10000^k*(x/10000^k/y):Nat):Int))
  (fun s=>(s.2.1+1).toNat) (fun r=>r.1=aD (x%y)/\r.2.length=(aD x).length/\jg r.2/\v10 r.2=((x/y:Nat):Int)) ⟨_,rfl,Nat.le_refl _,by simp only[];rw[my,Nat.zero_mod,dP],List.length_replicate,xu _,fun j hj=>by simp only[];rw[List.getElem?_replicate,if_pos hj],by simp only[];rw[wW,my,Nat.zero_div,Nat.mul_zero];rfl⟩ (by
  rintro⟨r,s,out⟩ ⟨k,hs,hk,hr,hl,hok,hz,hV⟩;simp only at hs hr hl hok hz hV|-;subst hs;subst hr
  cases k with
  |zero=>
   right
   unfold gf;rw[if_neg (by decide)];refine⟨_,rfl,?_,hl,hok,?_⟩
   ·simp only[];rw[Nat.pow_zero,Nat.div_one]
   ·simp only[];rw[hV,Nat.pow_zero,Nat.div_one,Nat.one_mul]
  |succ i=>
   left
   have ek:((i+1:Nat):Int)-1=(i:Int):=by omega
   rw[ek,Bx x y i out hy hx hsy (by omega) hl];have hoi:=hz i (by omega);rw[List.getElem?_eq_getElem (by omega)]at hoi;injection hoi with hoi;have hQ:(x/10000^i%10000+10000*(x/10000^(i+1)%y))/y<10000:=by
    have:=Nat.mod_lt (x/10000^(i+1)) (Nat.pos_of_ne_zero hy);rw[Nat.div_lt_iff_lt_mul (Nat.pos_of_ne_zero hy)];omega
   refine⟨_,rfl,⟨i,rfl,by omega,rfl,by simp only[];rw[List.length_set];exact hl,ux hok (Int.natCast_nonneg _) (Int.ofNat_lt.2 hQ),?_,?_⟩,by simp only[];omega⟩
   ·intro j hj;simp only[];rw[List.getElem?_set_ne (by omega)];exact hz j (by omega)
   ·simp only[];rw[xb (by omega),hoi,hV,Int.sub_zero,←Int.natCast_mul,←Int.natCast_add]
    congr 1
    rw[Nat.pow_succ,Nat.mul_assoc,←Nat.mul_add]
    congr 1
    rw[←Nat.pow_succ,eV];generalize x/10000^i=X;have h1:X=X%10000+10000*(X/10000%y)+y*(10000*(X/10000/y)):=by
     have h2:=Nat.mod_add_div (X/10000) y;have h3:=Nat.mod_add_div X 10000;have h4:y*(10000*(X/10000/y))=10000*(y*(X/10000/y)):=by rw[←Nat.mul_assoc,Nat.mul_comm y 10000,Nat.mul_assoc]
     rw[h4];omega
    conv=>rhs;rw[h1]
    rw[Nat.add_mul_div_left _ _ (Nat.pos_of_ne_zero hy)];omega)
 obtain⟨h1,h2,h3,h4⟩:=hq;rw[hr];simp only[Option.bind_some];rw[su r.2 h3 (by omega),h4,Option.bind_some,Int.toNat_natCast,h1]
end Go.Am
namespace Go.Am
open Go.RowKit
theorem x8(n:Nat):decide (((aD n).length:Int)>0)=decide (n≠0):=by
 by_cases h:n=0
 ·subst h;rw[dP];rfl
 ·have:(aD n).length≠0:=fun k=>h (vY.1 k);rw[decide_eq_true h,decide_eq_true (by omega)]
theorem oJ(neg:Bool)(n:Nat):gi neg (aD n)=some (decide (sg neg n<0),aD (sg neg n).natAbs):=by
 unfold gi;rw[nK,x8];cases neg
 ·rw[if_neg (by decide)];unfold sg;rw[if_neg (by decide),decide_eq_false (by omega)]
 ·rw[if_pos rfl];unfold sg;rw[if_pos rfl];by_cases h:n=0
  ·subst h;rfl
  ·rw[decide_eq_true h,decide_eq_true (by omega)]
theorem zT(z:Int):l6 (decide (z<0)) (aD z.natAbs)=some (decide (-z<0),aD (-z).natAbs):=by
 unfold l6;rw[oJ,DH];rfl
theorem zY(z w:Int)(hz:sm z.natAbs)(hw:sm w.natAbs):kx (decide (z<0)) (aD z.natAbs) (decide (w<0)) (aD w.natAbs)=some (decide (z*w<0),aD (z*w).natAbs):=by
 unfold kx;rw[xM _ _ hz hw,Option.bind_some,oJ,zE];rfl
theorem x6(nb:Bool)(n:Nat)(hn:sm n):kk nb (aD n)=some (if n<10000000000000000 then((n:Int),true)else(0,false)):=by
 have ln:=gD hn;have p4:(10000:Nat)^4=10000000000000000:=by decide
 unfold kk;by_cases h:(aD n).length<=4
 ·have hlt:n<10000000000000000:=Nat.lt_of_lt_of_le (lj n) (p4▸Nat.pow_le_pow_right (by decide) h);rw[if_neg (by simp;omega),if_pos hlt];have ht:=um n 0 (by omega) (by decide) (by rw[Nat.pow_zero,Nat.div_one];exact hlt);rw[Nat.pow_zero,Nat.div_one]at ht;have ht:fe (aD n) 0=some (n:Int):=ht;have:ki (aD n)=fx (aD n) 0:=rfl;rw[this];unfold fe at ht;obtain⟨r,hr,h2⟩:=bind_some ht;rw[hr];injection h2 with h2;rw[h2];rfl
 ·have hge:¬n<10000000000000000:=by
   intro hc;apply h;exact rB (p4▸hc)
  rw[if_pos (decide_eq_true (by omega)),if_neg hge]
theorem A4:jW=fJ:=rfl
theorem FG(na nb:Bool)(x y:Nat)(hx:sm x)(hy:sm y):n0 na (aD x) nb (aD y)=some (false,aD (Nat.gcd x y)):=by
 obtain⟨r,hr,hq⟩:=bZ (body:=fun(s:(List Int)×(List Int))=>jP s.1 s.2) (aD x,aD y) (fun s=>∃a b:Nat,s=(aD a,aD b)/\sm a/\sm b/\Nat.gcd a b=Nat.gcd x y) (fun s=>(v10 s.2).toNat) (fun r=>r=Ex.cp (aD (Nat.gcd x y))\/r=Ex.ret (false,aD (Nat.gcd x y))) ⟨x,y,rfl,hx,hy,rfl⟩ (by
  rintro s ⟨a,b,rfl,ha,hb,hg⟩;simp only;unfold jP;rw[x8];by_cases h0:b=0
  ·right
   subst h0;rw[Nat.gcd_zero_right]at hg;rw[if_neg (by decide)];exact⟨_,rfl,.inl (by rw[hg])⟩
  rw[if_pos (decide_eq_true h0),x6 _ _ ha,Option.bind_some];rw[x6 _ _ hb];simp only[Option.bind_some];by_cases h2:a<10000000000000000/\b<10000000000000000
  ·right
   rw[if_pos h2.1,if_pos h2.2];dsimp only;rw[if_pos rfl,if_pos rfl,A4,vu,Option.bind_some];have hgle:Nat.gcd a b<=b:=Nat.gcd_le_right _ (Nat.pos_of_ne_zero h0);rw[pH _ (by unfold eM;omega),Option.bind_some];dsimp only;rw[Option.bind_some,Int.natAbs_natCast,hg,decide_eq_false (by omega)];exact⟨_,rfl,.inr rfl⟩
  ·left
   have hgo:∀(u v:Int×Bool),u=(if a<10000000000000000 then((a:Int),true)else(0,false))->v=(if b<10000000000000000 then((b:Int),true)else(0,false))->
    (if u.2=true then(if v.2=true then(Loop (fun(s:Int×Int)=>jW s.1 s.2) (u.1,v.1)).bind fun v30=>(gp v30).bind fun(v31,v32)=>some (Ex.ret (v31,v32))else some (Ex.cp ()))else some (Ex.cp ()):Option (Ex Unit (Bool×List Int)))=some (Ex.cp ()):=by
    intro u v hu hv;by_cases h3:a<10000000000000000
    ·have h4:¬b<10000000000000000:=fun h=>h2 ⟨h3,h⟩;rw[if_neg h4]at hv;rw[if_pos h3]at hu;subst hu;subst hv;rw[if_pos rfl,if_neg (by decide)]
    ·rw[if_neg h3]at hu;subst hu;rw[if_neg (by decide)]
   have:=hgo _ _ rfl rfl;rw[this,Option.bind_some];dsimp only;rw[wI a b h0 ha hb,Option.bind_some];refine⟨_,rfl,⟨b,a%b,rfl,hb,nn (Nat.le_of_lt (Nat.mod_lt _ (Nat.pos_of_ne_zero h0))) hb,?_⟩,?_⟩
   ·rw[←hg,Nat.gcd_comm a b,Nat.gcd_rec b a,Nat.gcd_comm]
   ·simp only[tZ,Int.toNat_natCast];exact Nat.mod_lt _ (Nat.pos_of_ne_zero h0))
 unfold n0;rw[hr];rcases hq with rfl|rfl<;>rfl
theorem oG(n:Nat):decide ((n:Int)<0)=false:=decide_eq_false (by omega)
end Go.Am
namespace Go.Am
open Go.RowKit
theorem Bl:∀(s:List UInt8),uJ s->ke s<10^s.length:=by
 intro s;have key:∀(n:Nat) (l:List UInt8),l.length=n->uJ l->ke l<10^n:=by
  intro n
  induction n with
  |zero=>intro l hl _;rw[List.length_eq_zero_iff.1 hl];simp[ke]
  |succ n ih=>
   intro l hl hd;have hne:l≠[]:=by intro h;rw[h]at hl;simp at hl
   obtain⟨m,b,rfl⟩:∃m b,l=m++[b]:=⟨l.dropLast,l.getLast hne,(List.dropLast_concat_getLast hne).symm⟩;have hm:m.length=n:=by simpa using hl
   have h1:=ih m hm (fun c hc=>hd c (by simp[hc]));have h2:=hd b (by simp);rw[ov,Nat.pow_succ];omega
 exact key s.length s rfl
theorem Fv{s:List UInt8}(hd:uJ s)(hl:s.length<=1000000000000):bz (ke s)<=4*s.length:=by
 have:=Bl s hd;refine gg.2 (Nat.lt_of_lt_of_le this ?_);rw[Nat.pow_mul];exact Nat.pow_le_pow_left (by decide) _
end Go.Am
namespace Go.Am
open Go.RowKit
set_option maxRecDepth 100000
noncomputable section
def kq(a1:Bool)(a2:List Int)(a3:Bool)(a4:List Int):Option (Bool×(List Int)):=(if((a4.length:Int)==0)=true then(gp 1).bind fun(v6,v7)=>some (v6,v7)else some (a3,a4))
theorem vU{a1:Bool}{a2:List Int}{a3:Bool}{a4:List Int}{r9:Bool}{r10:List Int}(h:kq a1 a2 a3 a4=some (r9,r10)):aW PP 173 [] [D.agg ([D.bool a1,an (ak.int .i64) a2,D.bool a3,an (ak.int .i64) a4])] [] (D.agg ([D.bool r9,an (ak.int .i64) r10])):=by
 unfold kq at h;refine .of Go.Proofs.Tryz.func173 rfl (by kernel_rfl) rfl rfl rfl rfl rfl rfl (fun A w0 L b=>?_);show Ok PP _ [(0,D.agg ([D.bool a1,an (ak.int .i64) a2,D.bool a3,an (ak.int .i64) a4]))] [] _ _;refine .al (.j8 rfl rfl<|.fW ([D.bool false,D.nil]) b9 ⟨.refl _,.refl _,trivial⟩ rfl<|.nil) rfl ?_;refine .sq ?_;refine .al (.fa rfl l5<|.fa rfl ba<|.bA (an (ak.int .i64) a4) rfl rfl d_ rfl<|.fU rfl bI<|.cm rfl rfl rfl<|.nil) rfl ?_;by_cases c5:((a4.length:Int)==0)=true
 ·replace h:=ab c5 h;refine .cq rfl c5 ?_;obtain⟨⟨v6,v7⟩,e8,h⟩:=bind_some h;refine .al (.ah (nV e8) ⟨rfl,trivial⟩ trivial trivial<|.cH ([D.bool v6,an (ak.int .i64) v7]) rfl rfl rfl aF rfl rfl rfl<|.nil) rfl ?_;cases h;refine .aN (fun _ _ hb=>hb) rfl (.cons (.agg rfl rfl aF rfl) .nil) (.refl _) trivial trivial
 ·replace h:=ae c5 h;refine .cA rfl c5 ?_;refine .skip (Ok.on ?_);refine .al (.fa rfl l5<|.cb ([D.bool a3,an (ak.int .i64) a4]) rfl rfl aF rfl rfl<|.cH ([D.bool a3,an (ak.int .i64) a4]) rfl rfl rfl aF rfl rfl rfl<|.nil) rfl ?_;cases h;refine .aN (fun _ _ hb=>hb) rfl (.cons (.agg rfl rfl aF rfl) .nil) (.refl _) trivial trivial
def jE(a1:Bool)(a2:List Int)(a3:Bool)(a4:List Int):Option ((Bool×(List Int))×(Bool×(List Int))):=((if a3=true then(l6 a1 a2).bind fun(v8,v9)=>(l6 a3 a4).bind fun(v11,v12)=>some ((v8,v9,v11,v12))else some ((a1,a2,a3,a4)))).bind fun(v14,v15,v16,v17)=>(n0 v14 v15 v16 v17).bind fun(v18,v19)=>((if((v19.length:Int)==1)=true then(ix v19 0).bind fun v24=>(if(v24==1)=true then some (Ex.ret ((v14,v15),(v16,v17)))else some (Ex.cp ()))else some (Ex.cp ()))).bind fun o21=>(match o21 with|Ex.cp ()=>(kJ v15 v19).bind fun(v27,v28)=>(kJ v17 v19).bind fun(v30,v31)=>(gi v14 v27).bind fun(v33,v34)=>(gi false v30).bind fun(v36,v37)=>some ((v33,v34),(v36,v37))|Ex.ret ((r39,r40),(r41,r42))=>some ((r39,r40),(r41,r42)))
theorem Ao{a1:Bool}{a2:List Int}{a3:Bool}{a4:List Int}{r43:Bool}{r44:List Int}{r45:Bool}{r46:List Int}(h:jE a1 a2 a3 a4=some ((r43,r44),(r45,r46))):aW PP 161 [] [D.agg ([D.bool a1,an (ak.int .i64) a2]),D.agg ([D.bool a3,an (ak.int .i64) a4])] [] (D.agg ([D.bool r43,an (ak.int .i64) r44,D.bool r45,an (ak.int .i64) r46])):=by
 unfold jE at h;refine .of Go.Proofs.Tryz.func161 rfl (by kernel_rfl) rfl rfl rfl rfl rfl rfl (fun A w0 L b=>?_);show Ok PP _ [(0,D.agg ([D.bool a1,an (ak.int .i64) a2])),(1,D.agg ([D.bool a3,an (ak.int .i64) a4]))] [] _ _;refine .al (.j8 rfl rfl<|.j8 rfl rfl<|.fW ([D.bool false,D.nil,D.bool false,D.nil]) cV ⟨.refl _,.refl _,.refl _,.refl _,trivial⟩ rfl<|.nil) rfl ?_;obtain⟨o5,hp6,h⟩:=bind_some h;refine .cz (fun i=>o5=i) (fun(i:Bool×(List Int)×Bool×(List Int))=>[(2,D.ref 2 0),(3,D.ref 3 0),(4,D.ref 4 0)]) (fun(i:Bool×(List Int)×Bool×(List Int))=>[(2,Hp.box 35 ([D.bool i.1,an (ak.int .i64) i.2.1])),(3,Hp.box 35 ([D.bool i.2.2.1,an (ak.int .i64) i.2.2.2])),(4,Hp.box 37 ([D.bool false,D.nil,D.bool false,D.nil]))]) ?_ ?_
 ·have ho1:=h;have h:=hp6;refine .al (.fa rfl eD<|.bA (D.bool a3) rfl rfl bW rfl<|.nil) rfl ?_;by_cases c7:a3=true
  ·replace h:=ab c7 h;refine .cq rfl c7 ?_;obtain⟨⟨v8,v9⟩,e10,h⟩:=bind_some h;obtain⟨⟨v11,v12⟩,e13,h⟩:=bind_some h;refine .de cn (.cb ([D.bool a1,an (ak.int .i64) a2]) rfl rfl aF rfl rfl<|.ah (yq e10) ⟨rfl,trivial⟩ trivial trivial<|.cb ([D.bool a3,an (ak.int .i64) a4]) rfl rfl aF rfl rfl<|.ah (yq e13) ⟨rfl,trivial⟩ trivial trivial<|.cH ([D.bool v8,an (ak.int .i64) v9]) rfl rfl rfl aF rfl rfl rfl<|.cH ([D.bool v11,an (ak.int .i64) v12]) rfl rfl rfl aF rfl rfl rfl<|.nil) rfl (by kernel_rfl) (fun _ _ hs=>⟨(v8,v9,v11,v12),(sj h),hs.sub (.of rfl) (.of rfl) rfl rfl⟩)
  ·replace h:=ae c7 h;refine .cA rfl c7 ?_;refine .skip (fun _ _ hs=>⟨(a1,a2,a3,a4),(sj h),hs.sub (.of rfl) (.of rfl) rfl rfl⟩)
 ·rintro⟨v14,v15,v16,v17⟩ rfl
  try dsimp only
  obtain⟨⟨v18,v19⟩,e20,h⟩:=bind_some h;refine .al (.cb ([D.bool v14,an (ak.int .i64) v15]) rfl rfl aF rfl rfl<|.cb ([D.bool v16,an (ak.int .i64) v17]) rfl rfl aF rfl rfl<|.ah (C1 e20) ⟨rfl,rfl,trivial⟩ trivial trivial<|.fW ([D.bool false,D.nil]) b9 ⟨.refl _,.refl _,trivial⟩ rfl<|.cH ([D.bool v18,an (ak.int .i64) v19]) rfl rfl rfl aF rfl rfl rfl<|.nil) rfl ?_;obtain⟨o21,hp22,h⟩:=bind_some h;refine .cz (fun i=>o21=Ex.cp i) (fun(i:Unit)=>[(2,D.ref 2 0),(3,D.ref 3 0),(4,D.ref 4 0),(5,D.ref 5 0)]) (fun(i:Unit)=>[(2,Hp.box 35 ([D.bool v14,an (ak.int .i64) v15])),(3,Hp.box 35 ([D.bool v16,an (ak.int .i64) v17])),(4,Hp.box 37 ([D.bool false,D.nil,D.bool false,D.nil])),(5,Hp.box 35 ([D.bool v18,an (ak.int .i64) v19]))]) ?_ ?_
  ·have ho1:=h;have h:=hp22;by_cases c23:((v19.length:Int)==1)=true
   ·replace h:=ab c23 h;obtain⟨v24,e25,h⟩:=bind_some h;refine .al (.fa rfl ba<|.bA (an (ak.int .i64) v19) rfl rfl d_ rfl<|.fU rfl bI<|.cm rfl rfl rfl<|.mv rfl<|.gy c23<|.fa rfl ba<|.gy c23<|.bA (an (ak.int .i64) v19) rfl rfl d_ rfl<|.gy c23<|.kX rfl rfl dI (ag e25).1 (ag e25).2<|.gy c23<|.iJ rfl dw<|.gy c23<|.cm rfl rfl rfl<|.bm rfl c23 rfl<|.nil) rfl ?_;by_cases c26:(v24==1)=true
    ·replace h:=ab c26 h;refine .cq rfl c26 ?_;refine .al (.cb ([D.bool v14,an (ak.int .i64) v15]) rfl rfl aF rfl rfl<|.cb ([D.bool v16,an (ak.int .i64) v17]) rfl rfl aF rfl rfl<|.pC ([D.bool v14,an (ak.int .i64) v15,D.bool v16,an (ak.int .i64) v17]) [(0,_,D.agg ([D.bool v14,an (ak.int .i64) v15]),[D.bool v14,an (ak.int .i64) v15]),(2,_,D.agg ([D.bool v16,an (ak.int .i64) v17]),[D.bool v16,an (ak.int .i64) v17])] cV nh ⟨rfl,rfl,.agg _,rfl,rfl,rfl,.agg _,rfl,trivial⟩ ⟨rfl,rfl,trivial⟩ ⟨.refl _,.refl _,.refl _,.refl _,trivial⟩<|.cH ([D.bool v14,an (ak.int .i64) v15,D.bool v16,an (ak.int .i64) v17]) rfl rfl rfl aX rfl rfl rfl<|.nil) rfl ?_;cases h;have h:=ho1;cases h;refine .aN (fun _ _ hb=>hb) rfl (.cons (.agg rfl rfl aX rfl) .nil) (.refl _) trivial trivial
    ·replace h:=ae c26 h;refine .cA rfl c26 ?_;refine .skip (fun _ _ hs=>⟨(),(sj h),hs.sub (.of rfl) (.of rfl) rfl rfl⟩)
   ·replace h:=ae c23 h;refine .al (.fa rfl ba<|.bA (an (ak.int .i64) v19) rfl rfl d_ rfl<|.fU rfl bI<|.cm rfl rfl rfl<|.mv rfl<|.gm c23<|.gm c23<|.gm c23<|.gm c23<|.gm c23<|.bh rfl c23 rfl<|.nil) rfl ?_;refine .cA rfl (by decide) ?_;refine .skip (fun _ _ hs=>⟨(),(sj h),hs.sub (.of rfl) (.of rfl) rfl rfl⟩)
  ·rintro⟨⟩ rfl
   try dsimp only
   obtain⟨⟨v27,v28⟩,e29,h⟩:=bind_some h;refine .al (.fa rfl ba<|.bA (an (ak.int .i64) v15) rfl rfl d_ rfl<|.fa rfl ba<|.bA (an (ak.int .i64) v19) rfl rfl d_ rfl<|.ah (tL e29) ⟨rfl,rfl,trivial⟩ trivial trivial<|.mv rfl<|.ext rfl rfl<|.ext rfl rfl<|.ao rfl<|.ao rfl<|.nil) rfl ?_;obtain⟨⟨v30,v31⟩,e32,h⟩:=bind_some h;refine .al (.fa rfl ba<|.bA (an (ak.int .i64) v17) rfl rfl d_ rfl<|.fa rfl ba<|.bA (an (ak.int .i64) v19) rfl rfl d_ rfl<|.ah (tL e32) ⟨rfl,rfl,trivial⟩ trivial trivial<|.mv rfl<|.ext rfl rfl<|.ext rfl rfl<|.ao rfl<|.ao rfl<|.nil) rfl ?_;obtain⟨⟨v33,v34⟩,e35,h⟩:=bind_some h;obtain⟨⟨v36,v37⟩,e38,h⟩:=bind_some h;refine .al (.fa rfl eD<|.bA (D.bool v14) rfl rfl bW rfl<|.mv rfl<|.ah (m4 e35) ⟨rfl,rfl,trivial⟩ trivial trivial<|.mv rfl<|.ah (m4 e38) ⟨rfl,rfl,trivial⟩ trivial trivial<|.pC ([D.bool v33,an (ak.int .i64) v34,D.bool v36,an (ak.int .i64) v37]) [(0,_,D.agg ([D.bool v33,an (ak.int .i64) v34]),[D.bool v33,an (ak.int .i64) v34]),(2,_,D.agg ([D.bool v36,an (ak.int .i64) v37]),[D.bool v36,an (ak.int .i64) v37])] cV nh ⟨rfl,rfl,.agg _,rfl,rfl,rfl,.agg _,rfl,trivial⟩ ⟨rfl,rfl,trivial⟩ ⟨.refl _,.refl _,.refl _,.refl _,trivial⟩<|.cH ([D.bool v33,an (ak.int .i64) v34,D.bool v36,an (ak.int .i64) v37]) rfl rfl rfl aX rfl rfl rfl<|.nil) rfl ?_;cases h;refine .aN (fun _ _ hb=>hb) rfl (.cons (.agg rfl rfl aX rfl) .nil) (.refl _) trivial trivial
def w_(a1:Int)(a2:Int):Option ((Bool×(List Int))×(Bool×(List Int))):=(gp a1).bind fun(v3,v4)=>(gp a2).bind fun(v6,v7)=>(jE v3 v4 v6 v7).bind fun((v9,v10),(v11,v12))=>some ((v9,v10),(v11,v12))
theorem Ht{a1:Int}{a2:Int}{r14:Bool}{r15:List Int}{r16:Bool}{r17:List Int}(h:w_ a1 a2=some ((r14,r15),(r16,r17))):aW PP 37 [] [D.int .i64 a1,D.int .i64 a2] [] (D.agg ([D.bool r14,an (ak.int .i64) r15,D.bool r16,an (ak.int .i64) r17])):=by
 unfold w_ at h;refine .of Go.Proofs.Tryz.func37 rfl (by kernel_rfl) rfl rfl rfl rfl rfl rfl (fun A w0 L b=>?_);show Ok PP _ [(0,D.int .i64 a1),(1,D.int .i64 a2)] [] _ _;refine .al (.fW ([D.bool false,D.nil,D.bool false,D.nil]) cV ⟨.refl _,.refl _,.refl _,.refl _,trivial⟩ rfl<|.nil) rfl ?_;obtain⟨⟨v3,v4⟩,e5,h⟩:=bind_some h;obtain⟨⟨v6,v7⟩,e8,h⟩:=bind_some h;obtain⟨⟨⟨v9,v10⟩,⟨v11,v12⟩⟩,e13,h⟩:=bind_some h;refine .al (.mv rfl<|.ah (nV e5) ⟨rfl,trivial⟩ trivial trivial<|.mv rfl<|.ah (nV e8) ⟨rfl,trivial⟩ trivial trivial<|.ah (Ao e13) ⟨rfl,rfl,trivial⟩ trivial trivial<|.cH ([D.bool v9,an (ak.int .i64) v10,D.bool v11,an (ak.int .i64) v12]) rfl rfl rfl aX rfl rfl rfl<|.nil) rfl ?_;cases h;refine .aN (fun _ _ hb=>hb) rfl (.cons (.agg rfl rfl aX rfl) .nil) (.refl _) trivial trivial
def so(a1:Bool)(a2:List Int)(a3:Bool)(a4:List Int)(a5:Bool)(a6:List Int)(a7:Bool)(a8:List Int):Option ((Bool×(List Int))×(Bool×(List Int))):=(kx a1 a2 a5 a6).bind fun(v9,v10)=>(kq a1 a2 a3 a4).bind fun(v12,v13)=>(kq a5 a6 a7 a8).bind fun(v15,v16)=>(kx v12 v13 v15 v16).bind fun(v18,v19)=>(jE v9 v10 v18 v19).bind fun((v21,v22),(v23,v24))=>some ((v21,v22),(v23,v24))
theorem Eu{a1:Bool}{a2:List Int}{a3:Bool}{a4:List Int}{a5:Bool}{a6:List Int}{a7:Bool}{a8:List Int}{r26:Bool}{r27:List Int}{r28:Bool}{r29:List Int}(h:so a1 a2 a3 a4 a5 a6 a7 a8=some ((r26,r27),(r28,r29))):aW PP 47 [] [D.agg ([D.bool a1,an (ak.int .i64) a2,D.bool a3,an (ak.int .i64) a4]),D.agg ([D.bool a5,an (ak.int .i64) a6,D.bool a7,an (ak.int .i64) a8])] [] (D.agg ([D.bool r26,an (ak.int .i64) r27,D.bool r28,an (ak.int .i64) r29])):=by
 unfold so at h;refine .of Go.Proofs.Tryz.func47 rfl (by kernel_rfl) rfl rfl rfl rfl rfl rfl (fun A w0 L b=>?_);show Ok PP _ [(0,D.agg ([D.bool a1,an (ak.int .i64) a2,D.bool a3,an (ak.int .i64) a4])),(1,D.agg ([D.bool a5,an (ak.int .i64) a6,D.bool a7,an (ak.int .i64) a8]))] [] _ _;refine .al (.j8 rfl rfl<|.j8 rfl rfl<|.fW ([D.bool false,D.nil,D.bool false,D.nil]) cV ⟨.refl _,.refl _,.refl _,.refl _,trivial⟩ rfl<|.nil) rfl ?_;obtain⟨⟨v9,v10⟩,e11,h⟩:=bind_some h;obtain⟨⟨v12,v13⟩,e14,h⟩:=bind_some h;obtain⟨⟨v15,v16⟩,e17,h⟩:=bind_some h;obtain⟨⟨v18,v19⟩,e20,h⟩:=bind_some h;obtain⟨⟨⟨v21,v22⟩,⟨v23,v24⟩⟩,e25,h⟩:=bind_some h;refine .dh cn (.fa rfl lV<|.cb ([D.bool a1,an (ak.int .i64) a2]) rfl rfl aF rfl rfl<|.fa rfl lV<|.cb ([D.bool a5,an (ak.int .i64) a6]) rfl rfl aF rfl rfl<|.ah (x5 e11) ⟨rfl,rfl,trivial⟩ trivial trivial<|.cb ([D.bool a1,an (ak.int .i64) a2,D.bool a3,an (ak.int .i64) a4]) rfl rfl aX rfl rfl<|.ah (vU e14) ⟨rfl,trivial⟩ trivial trivial<|.cb ([D.bool a5,an (ak.int .i64) a6,D.bool a7,an (ak.int .i64) a8]) rfl rfl aX rfl rfl<|.ah (vU e17) ⟨rfl,trivial⟩ trivial trivial<|.ah (x5 e20) ⟨rfl,rfl,trivial⟩ trivial trivial<|.ah (Ao e25) ⟨rfl,rfl,trivial⟩ trivial trivial<|.cH ([D.bool v21,an (ak.int .i64) v22,D.bool v23,an (ak.int .i64) v24]) rfl rfl rfl aX rfl rfl rfl<|.nil) rfl (by kernel_rfl) ?_;cases h;refine .aN (fun _ _ hb=>hb) rfl (.cons (.agg rfl rfl aX rfl) .nil) (.refl _) trivial trivial
end
end Go.Am
namespace Go.Am
open Go.RowKit
abbrev xN(d:Nat)(l:List Int):Prop:=l=aD d\/(d=1/\l=[])
abbrev Hz(x:Rat)(l:List Int):D:=.agg [.bool (decide (x.num<0)),an (ak.int .i64) (aD x.num.natAbs),.bool false,an (ak.int .i64) l]
theorem Au{x:Rat}{ε:Env}{w:World}{S:ck}{v:Value}(h:(D_ x).p ε w S v):∃l,xN x.den l/\(Hz x l).p ε w S v:=by
 obtain⟨cs,e,h1,ha⟩:=h;rcases cs with _|⟨c1,_|⟨c2,_|⟨c3,_|⟨c4,cs⟩⟩⟩⟩
 ·exact ha.elim
 ·exact ha.2.elim
 ·exact ha.2.2.elim
 ·exact ha.2.2.2.elim
 ·obtain⟨a1,a2,a3,⟨l,hl,hp⟩,a5⟩:=ha;exact⟨l,hl,_,e,h1,a1,a2,a3,hp,a5⟩
theorem aW.any{P:Program}{f:FuncId}{ds:List D}{d:D}{ι:Type}(dsi:ι->List D)(Q:ι->Prop)(i0:ι)(h0:Q i0)(h:∀i,Q i->aW P f [] (dsi i) [] d)(hn:bD ds=bD (dsi i0))
  (hc:∀ε w S vs,bN ε w S ds vs->∃i,Q i/\bN ε w S (dsi i) vs):aW P f [] ds [] d where
 ok:=(h i0 h0).ok
 G6:=by rw[hn];exact(h i0 h0).G6
 Hw:=(h i0 h0).Hw
 Gg:=(h i0 h0).Gg
 Ev:=(h i0 h0).Ev
 ta:=(h i0 h0).ta
 calls:=by
  intro A w ε φ vs h1 h2 h3 hv;obtain⟨i,hq,hv'⟩:=hc _ _ _ _ hv;exact(h i hq).calls A w ε φ vs h1 h2 h3 hv'
theorem aW.JC{P:Program}{f:FuncId}{a b:Rat}{ds:List D}{d:D}(h:∀l m,xN a.den l->xN b.den m->aW P f [] (Hz a l::Hz b m::ds) [] d):aW P f [] (D_ a::D_ b::ds) [] d:=by
 refine .any (fun(x:List Int×List Int)=>Hz a x.1::Hz b x.2::ds) (fun x=>xN a.den x.1/\xN b.den x.2) (aD a.den,aD b.den) ⟨.inl rfl,.inl rfl⟩ (fun x hx=>h _ _ hx.1 hx.2) rfl ?_;intro ε w S vs hv
 cases vs with
 |nil=>exact hv.elim
 |cons v vs=>
  cases vs with
  |nil=>exact hv.2.elim
  |cons v' vs=>
   obtain⟨l,hl,hp⟩:=Au hv.1;obtain⟨m,hm,hp'⟩:=Au hv.2.1;exact⟨(l,m),⟨hl,hm⟩,hp,hp',hv.2.2⟩
theorem aW.HM{P:Program}{f:FuncId}{ds:List D}{d d':D}(h:aW P f [] ds [] d)(hd:Le d d'):aW P f [] ds [] d':=(h.plain.out hd).gen
theorem Fu{d:Nat}:Le (an (ak.int .i64) (aD d)) (GV d):=⟨fun _ _ _ _ h=>⟨_,.inl rfl,h⟩,fun r hr=>by cases hr⟩
theorem yN(x:Rat):Le (Hz x (aD x.den)) (D_ x):=.agg ⟨.refl _,.refl _,.refl _,Fu,trivial⟩
abbrev zz(z:Int):Bool×List Int:=(decide (z<0),aD z.natAbs)
abbrev rr(x:Rat):(Bool×List Int)×(Bool×List Int):=(zz x.num,(false,aD x.den))
theorem GP(d:Nat)(h:d≠0):((aD d).length:Int)≠0:=by
 have:(aD d).length≠0:=fun k=>h (vY.1 k);omega
theorem HG:gp 1=some (false,aD 1):=pH 1 (by unfold eM;omega)
theorem ub(a:Rat)(neg:Bool)(n:List Int){l:List Int}(h:xN a.den l):kq neg n false l=some (false,aD a.den):=by
 unfold kq;rcases h with rfl|⟨h1,rfl⟩
 ·rw[if_neg (by rw[beq_iff_eq];exact GP _ a.den_nz)]
 ·rw[if_pos (by decide),HG,h1];rfl
theorem tp{x:Nat}(h0:x≠0)(h:x<10000):aD x=[(x:Int)]:=by
 rw[jX h0,Nat.mod_eq_of_lt h,Nat.div_eq_of_lt h,dP]
theorem DX(g:Nat)(h0:g≠0):(if(((aD g).length:Int)==1)=true then(ix (aD g) 0).bind fun v24=>(if(v24==1)=true then some true else some false)else some false)=some (decide (g=1)):=by
 by_cases h1:g=1
 ·subst h1;rw[tp (by decide) (by decide)];rfl
 ·by_cases hl:(((aD g).length:Int)==1)=true
  ·rw[if_pos hl];have hl2:(aD g).length=1:=by rw[beq_iff_eq]at hl;omega
   have hlt:=lj g;rw[hl2]at hlt;have e:aD g=[(g:Int)]:=tp h0 (by omega);rw[e];have:ix [(g:Int)] 0=some (g:Int):=rfl;rw[this,Option.bind_some,if_neg (by rw[beq_iff_eq];omega),decide_eq_false h1]
  ·rw[if_neg hl,decide_eq_false h1]
theorem ES{α:Type}(g:Nat)(h0:g≠0)(x y:α):(if(((aD g).length:Int)==1)=true then(ix (aD g) 0).bind fun v24=>(if(v24==1)=true then some x else some y)else some y)=some (if g=1 then x else y):=by
 have h:=DX g h0;by_cases hl:(((aD g).length:Int)==1)=true
 ·rw[if_pos hl]at h|-;obtain⟨v,e,h⟩:=bind_some h;rw[e,Option.bind_some];by_cases hv:(v==1)=true
  ·rw[if_pos hv]at h|-;injection h with h;rw[if_pos (of_decide_eq_true h.symm)]
  ·rw[if_neg hv]at h|-;injection h with h;rw[if_neg (of_decide_eq_false h.symm)]
 ·rw[if_neg hl]at h|-;injection h with h;rw[if_neg (of_decide_eq_false h.symm)]
theorem wO(z:Int)(d:Nat)(hd:d≠0)(hz:sm z.natAbs)(hs:sm d):jE (decide (z<0)) (aD z.natAbs) false (aD d)=some (rr (mkRat z d)):=by
 obtain⟨e1,e2⟩:=tq z d hd;have hg0:Nat.gcd z.natAbs d≠0:=fun h=>hd (Nat.eq_zero_of_gcd_eq_zero_right h);have hgd:Nat.gcd z.natAbs d∣d:=Nat.gcd_dvd_right _ _;have hgs:sm (Nat.gcd z.natAbs d):=nn (Nat.le_of_dvd (Nat.pos_of_ne_zero hd) hgd) hs;have hsg:=D2 z _ (Nat.gcd_dvd_left z.natAbs d);unfold jE;rw[if_neg (by decide),Option.bind_some];dsimp only;rw[FG _ _ _ _ hz hs,Option.bind_some];dsimp only;rw[ES _ hg0,Option.bind_some];unfold rr zz;rw[e1,e2];generalize Nat.gcd z.natAbs d=g at*;by_cases h1:g=1
 ·rw[if_pos h1];dsimp only;subst h1;rw[Int.natCast_one,Int.ediv_one,Nat.div_one]
 ·rw[if_neg h1];dsimp only;rw[wI _ _ hg0 hz hgs,Option.bind_some,wI _ _ hg0 hs hgs];simp only[Option.bind_some];rw[oJ,hsg];simp only[Option.bind_some];rw[oJ,nK];have:decide (sg false (d/g)<0)=false:=by unfold sg;rw[if_neg (by decide)];exact oG _
  rw[this];rfl
theorem GU(z w:Int)(hw:w≠0)(hz:sm z.natAbs)(hs:sm w.natAbs):jE (decide (z<0)) (aD z.natAbs) (decide (w<0)) (aD w.natAbs)=some (rr (Rat.divInt z w)):=by
 by_cases h:w<0
 ·have e:jE (decide (z<0)) (aD z.natAbs) (decide (w<0)) (aD w.natAbs)=jE (decide (-z<0)) (aD (-z).natAbs) (decide (-w<0)) (aD (-w).natAbs):=by
   unfold jE;rw[if_pos (decide_eq_true h),if_neg (by simp;omega),zT,zT]
   rfl
  obtain⟨d,hd⟩:∃d:Nat,-w=(d:Int):=⟨(-w).toNat,by omega⟩;have h1:=wO (-z) d (by omega) (by rw[Int.natAbs_neg];exact hz) (by rw[←Int.natAbs_neg,hd,Int.natAbs_natCast]at hs;exact hs);rw[e,hd,oG,Int.natAbs_natCast,h1,←Rat.divInt_ofNat,←hd,Rat.neg_divInt_neg]
 ·obtain⟨d,rfl⟩:=Int.eq_ofNat_of_zero_le (show 0<=w by omega);rw[oG,Int.natAbs_natCast,wO z d (by omega) hz hs,←Rat.divInt_ofNat]
theorem Fw(n d:Int)(h:eM n)(k:eM d)(h0:d≠0):w_ n d=some (rr ((n:Rat)/(d:Rat))):=by
 unfold w_;rw[pH n h,Option.bind_some];dsimp only;rw[pH d k,Option.bind_some];dsimp only;rw[GU n d h0 (wi h) (wi k),Rat.divInt_eq_div];rfl
theorem E4(a b:Rat)(ha:sm a.den)(hb:sm b.den):kx false (aD a.den) false (aD b.den)=some (false,aD (a.den*b.den)):=by
 have:=zY (a.den:Int) (b.den:Int) (by rw[Int.natAbs_natCast];exact ha) (by rw[Int.natAbs_natCast];exact hb);rw[oG,oG,Int.natAbs_natCast,Int.natAbs_natCast,←Int.natCast_mul,oG,Int.natAbs_natCast]at this;exact this
section
variable {l m:List Int}
theorem D4(a b:Rat)(h:qw a)(k:qw b)(hl:xN a.den l)(hm:xN b.den m):so (decide (a.num<0)) (aD a.num.natAbs) false l (decide (b.num<0)) (aD b.num.natAbs) false m=some (rr (a*b)):=by
 unfold so;rw[zY _ _ (jv h) (jv k),ub a _ _ hl,ub b _ _ hm];simp only[Option.bind_some];rw[E4 a b (gO h) (gO k)];simp only[Option.bind_some];rw[wO _ _ (Nat.mul_ne_zero a.den_nz b.den_nz) (jl (Ga h k) (by omega)) (jl (Df h k) (by omega)),←Rat.mul_def']
 rfl
end
end Go.Am
namespace Go.Am
open Go.RowKit
section
variable {l m:List Int}
end
end Go.Am
namespace Go.Am
open Go.RowKit
section
variable {l m:List Int}
end
end Go.Am
namespace Go.Am
open Go.RowKit
def ja(x:Rat):Rat:=if x<0 then-x else x
def closer(a c b:Rat):Bool:=decide (iu (ja (c-a)) (ja (b-a))<0)||(iu (ja (c-a)) (ja (b-a))==0&&(decide (fR c.den b.den<0)||(fR c.den b.den==0&&decide (iu c b<0))))
def lG(a:Rat)(n j:Nat)(b:Rat):Rat:=if closer a (mkRat ((a*(n:Int)).floor+(j:Int)) n) b then mkRat ((a*(n:Int)).floor+(j:Int)) n else b
def ni(a:Rat):Nat->Rat
 |0=>(a.floor:Rat)
 |n+1=>lG a (n+1) 1 (lG a (n+1) 0 (ni a n))
theorem FM(z:Int)(d n:Nat)(hd:d≠0)(h1:bz z.natAbs<=n)(h2:bz d<=n):sz (mkRat z d)<=n:=
 iF.2 ⟨Nat.le_trans (da (oy _ _)) h1,Nat.le_trans (da (jA _ _ hd)) h2⟩
theorem An(a:Rat):sz (ja a)=sz a:=by unfold ja;exact He a
section
open D
def Eh(n d:Int):Option Rat:=bO (eM n/\eM d/\d≠0) (some ((n:Rat)/(d:Rat)))
theorem Iu{a1:Int}{a2:Int}{r3:Rat}(h:Eh a1 a2=some r3):aW PP 37 [] [D.int .i64 a1,D.int .i64 a2] [] (D_ r3):=by
 obtain⟨h0,h⟩:=ax h;injection h with h;subst h;exact(Ht (Fw a1 a2 h0.1 h0.2.1 h0.2.2)).HM (yN _)
theorem H8{a1:Rat}{a2:Rat}{r3:Rat}(h:eJ a1 a2=some r3):aW PP 47 [] [D_ a1,D_ a2] [] (D_ r3):=by
 obtain⟨h0,h⟩:=ax h;injection h with h;subst h;exact .JC fun l m hl hm=>(Eu (D4 a1 a2 (lU h0.1) (lU h0.2) hl hm)).HM (yN _)
end
end Go.Am
namespace Go.Am
open Go.RowKit
set_option maxRecDepth 100000
noncomputable section
end
end Go.Am
namespace Go.Am
open Go.RowKit
section
variable {l m:List Int}
end
end Go.Am
namespace Go.Proofs
open Go.Shelf
def Tryz.xJ:Go.Shelf.Ren:=⟨fun|160=>213|232=>241|231=>240|227=>242|234=>244|233=>243|236=>246|235=>245|228=>258|271=>261|151=>260|197=>259|120=>266|152=>265|260=>264|137=>267|119=>268|224=>256|225=>255|217=>254|266=>262|n=>n,fun|9=>9|4=>4|3=>3|5=>5|117=>271|116=>270|0=>0|124=>274|21=>21|105=>283|46=>246|119=>288|139=>291|138=>290|n=>n,fun|3=>1|4=>2|n=>n⟩
theorem Tryz.En:Go.Proofs.Lays.n160 Tryz.prog Tryz.xJ:={
 mixed:=by kernel_rfl
 f119:=Tryz.func268.trans (congrArg some (by kernel_rfl))
 f120:=Tryz.func266.trans (congrArg some (by kernel_rfl))
 f137:=Tryz.func267.trans (congrArg some (by kernel_rfl))
 f151:=Tryz.func260.trans (congrArg some (by kernel_rfl))
 f152:=Tryz.func265.trans (congrArg some (by kernel_rfl))
 f160:=Tryz.func213.trans (congrArg some (by kernel_rfl))
 f197:=Tryz.func259.trans (congrArg some (by kernel_rfl))
 f217:=Tryz.func254.trans (congrArg some (by kernel_rfl))
 f224:=Tryz.func256.trans (congrArg some (by kernel_rfl))
 f225:=Tryz.func255.trans (congrArg some (by kernel_rfl))
 f227:=Tryz.func242.trans (congrArg some (by kernel_rfl))
 f228:=Tryz.func258.trans (congrArg some (by kernel_rfl))
 f231:=Tryz.func240.trans (congrArg some (by kernel_rfl))
 f232:=Tryz.func241.trans (congrArg some (by kernel_rfl))
 f233:=Tryz.func243.trans (congrArg some (by kernel_rfl))
 f234:=Tryz.func244.trans (congrArg some (by kernel_rfl))
 f235:=Tryz.func245.trans (congrArg some (by kernel_rfl))
 f236:=Tryz.func246.trans (congrArg some (by kernel_rfl))
 f260:=Tryz.func264.trans (congrArg some (by kernel_rfl))
 f266:=Tryz.func262.trans (congrArg some (by kernel_rfl))
 f271:=Tryz.func261.trans (congrArg some (by kernel_rfl))
 t0:=Tryz.underlying0
 a0:=Tryz.isAgg0
 z0:=Tryz.sizeOf0
 v0:=Tryz.zeroValue0
 t3:=Tryz.underlying3
 a3:=Tryz.isAgg3
 z3:=Tryz.sizeOf3
 v3:=Tryz.zeroValue3
 t4:=Tryz.underlying4
 a4:=Tryz.isAgg4
 z4:=Tryz.sizeOf4
 v4:=Tryz.zeroValue4
 t5:=Tryz.underlying5
 a5:=Tryz.isAgg5
 z5:=Tryz.sizeOf5
 v5:=Tryz.zeroValue5
 t9:=Tryz.underlying9
 a9:=Tryz.isAgg9
 z9:=Tryz.sizeOf9
 v9:=Tryz.zeroValue9
 t21:=Tryz.underlying21
 a21:=Tryz.isAgg21
 z21:=Tryz.sizeOf21
 v21:=Tryz.zeroValue21
 t46:=Tryz.underlying246
 a46:=Tryz.isAgg246
 z46:=Tryz.sizeOf246
 v46:=Tryz.zeroValue246
 t105:=Tryz.underlying283
 a105:=Tryz.isAgg283
 z105:=Tryz.sizeOf283
 v105:=Tryz.zeroValue283
 t116:=Tryz.underlying270
 a116:=Tryz.isAgg270
 z116:=Tryz.sizeOf270
 t117:=Tryz.underlying271
 a117:=Tryz.isAgg271
 z117:=Tryz.sizeOf271
 v117:=Tryz.zeroValue271
 t119:=Tryz.underlying288
 a119:=Tryz.isAgg288
 z119:=Tryz.sizeOf288
 t124:=Tryz.underlying274
 a124:=Tryz.isAgg274
 z124:=Tryz.sizeOf274
 v124:=Tryz.zeroValue274
 t138:=Tryz.underlying290
 a138:=Tryz.isAgg290
 z138:=Tryz.sizeOf290
 v138:=Tryz.zeroValue290
 t139:=Tryz.underlying291
 a139:=Tryz.isAgg291
 z139:=Tryz.sizeOf291
 v139:=Tryz.zeroValue291
 g3:=by kernel_rfl
 g4:=by kernel_rfl}
def Tryz.yD:Go.Shelf.Ren:=⟨fun|219=>239|217=>254|225=>255|224=>256|267=>257|266=>262|314=>263|n=>n,fun|9=>9|3=>3|4=>4|5=>5|46=>246|146=>275|51=>230|n=>n,fun|1=>0|n=>n⟩
theorem Tryz.E3:Go.Proofs.Lays.n219 Tryz.prog Tryz.yD:={
 mixed:=by kernel_rfl
 f217:=Tryz.func254.trans (congrArg some (by kernel_rfl))
 f219:=Tryz.func239.trans (congrArg some (by kernel_rfl))
 f224:=Tryz.func256.trans (congrArg some (by kernel_rfl))
 f225:=Tryz.func255.trans (congrArg some (by kernel_rfl))
 f266:=Tryz.func262.trans (congrArg some (by kernel_rfl))
 f267:=Tryz.func257.trans (congrArg some (by kernel_rfl))
 f314:=Tryz.func263.trans (congrArg some (by kernel_rfl))
 t3:=Tryz.underlying3
 a3:=Tryz.isAgg3
 z3:=Tryz.sizeOf3
 v3:=Tryz.zeroValue3
 t4:=Tryz.underlying4
 a4:=Tryz.isAgg4
 z4:=Tryz.sizeOf4
 v4:=Tryz.zeroValue4
 t5:=Tryz.underlying5
 a5:=Tryz.isAgg5
 z5:=Tryz.sizeOf5
 v5:=Tryz.zeroValue5
 t9:=Tryz.underlying9
 a9:=Tryz.isAgg9
 z9:=Tryz.sizeOf9
 v9:=Tryz.zeroValue9
 t46:=Tryz.underlying246
 a46:=Tryz.isAgg246
 z46:=Tryz.sizeOf246
 v46:=Tryz.zeroValue246
 t51:=Tryz.underlying230
 a51:=Tryz.isAgg230
 z51:=Tryz.sizeOf230
 v51:=Tryz.zeroValue230
 t146:=Tryz.underlying275
 a146:=Tryz.isAgg275
 z146:=Tryz.sizeOf275
 v146:=Tryz.zeroValue275
 g1:=by kernel_rfl}
open Go.RowKit Go.Lib in
theorem Tryz.stringslite_Index_one(s:ByteArray)(c:UInt8)(w:World):
  Calls Tryz.prog 239 #[.string s,.string ⟨#[c]⟩] w fun e w'=>e=.returned (.int .i64 (Lib.indexByte s.data.toList c))/\w'=w:=Any.stringslite_Index_one Tryz.E3 s c w
end Go.Proofs
namespace Go.Am
open Go.RowKit
theorem lO.AK{P:Program}{f:FuncId}{ss:List (List UInt8)}{d:D}(hok:oR P f=true)(hnm:d.nm=[])(v:Value)(hv:∀ε w S,d.p ε w S v)
  (h:∀w,Calls P f (ss.map fun s=>Value.string ⟨s.toArray⟩).toArray w (fun e w'=>e=.returned v/\Below w.heap.size w w')):lO P f (ss.map cf) d where
 ok:=hok
 bD:=by
  induction ss with
  |nil=>rfl
  |cons s ss ih=>exact wb (fun _=>rfl) (s::ss)
 nm:=hnm
 calls:=by
  intro A w vs hvs;have e:vs=ss.map fun s=>Value.string ⟨s.toArray⟩:=by
   clear h
   induction ss generalizing vs with
   |nil=>cases vs with|nil=>rfl|cons _ _=>exact hvs.elim
   |cons s ss ih=>
    cases vs with
    |nil=>exact hvs.elim
    |cons v vs=>rw[List.map_cons,ih vs hvs.2,show v=_ from hvs.1]
  subst e;exact(h w).mono (fun e w' ⟨h1,h2⟩=>⟨v,h1,hv _ _ _,h2⟩)
def y9(s cut:List UInt8):Option (List UInt8):=bO (s.length<=9223372036854775807/\cut.length<4294967281/\∀b∈cut,b.toNat<128) (some (Lib.trimS s cut))
theorem Gp{s cut r:List UInt8}(h:y9 s cut=some r):aW PP 213 [] [cf s,cf cut] [] (cf r):=by
 obtain⟨⟨h0,h1,h2⟩,h⟩:=ax h;injection h with h;subst h;refine(lO.AK (ss:=[s,cut]) (by kernel_rfl) rfl (.string ⟨(Lib.trimS s cut).toArray⟩) (fun _ _ _=>rfl) (fun w=>?_)).gen;exact Go.Proofs.Any.strings_Trim_ascii Go.Proofs.Tryz.En (fun _=>by kernel_rfl) (by kernel_rfl) ⟨s.toArray⟩ ⟨cut.toArray⟩ w h0 h1 (fun j b hj=>h2 b (List.mem_of_getElem? hj))
def wz(s sep:List UInt8):Option Int:=bO (sep.length=1) (some (Lib.indexByte s (sep.getD 0 0)))
theorem EK{s sep:List UInt8}{r:Int}(h:wz s sep=some r):aW PP 239 [] [cf s,cf sep] [] (D.int .i64 r):=by
 obtain⟨h0,h⟩:=ax h;injection h with h;subst h
 match sep,h0 with
 |[c],_=>
  refine(lO.AK (ss:=[s,[c]]) (by kernel_rfl) rfl (.int .i64 (Lib.indexByte s c)) (fun _ _ _=>rfl) (fun w=>?_)).gen;exact(Go.Proofs.Tryz.stringslite_Index_one ⟨s.toArray⟩ c w).mono (fun e w' ⟨h1,h2⟩=>⟨h1,h2▸Below.refl _ _⟩)
end Go.Am
namespace Go.Am
open Go.RowKit
set_option maxRecDepth 100000
noncomputable section
def iZ(a1:List UInt8)(a2:List UInt8):Option Bool:=(if(decide ((a1.length:Int)>=(a2.length:Int)))=true then bO ((0:Int)<=(a2.length:Int)/\((a2.length:Int):Int)<=(a1.length:Int)) (some ((List.take (a2.length:Int).toNat a1)==a2))else some false)
theorem tQ{a1:List UInt8}{a2:List UInt8}{r5:Bool}(h:iZ a1 a2=some r5):aW PP 238 [] [cf a1,cf a2] [] (D.bool r5):=by
 unfold iZ at h;refine .of Go.Proofs.Tryz.func238 rfl (by kernel_rfl) rfl rfl rfl rfl rfl rfl (fun A w0 L b=>?_);show Ok PP _ [(0,cf a1),(1,cf a2)] [] _ _;refine .al (.ao rfl<|.nil) rfl ?_;by_cases c3:(decide ((a1.length:Int)>=(a2.length:Int)))=true
 ·replace h:=ab c3 h;obtain⟨k4,h⟩:=ax h;refine .al (.mv rfl<|.wy rfl c_<|.mv rfl<|.wy rfl c_<|.cm rfl rfl rfl<|.mv rfl<|.gy c3<|.mv rfl<|.gy c3<|.mv rfl<|.gy c3<|.wy rfl c_<|.gy c3<|.Ji rfl rfl c_ k4.1 k4.2<|.gy c3<|.mv rfl<|.gy c3<|.Hy rfl rfl<|.bm rfl c3 rfl<|.ao rfl<|.nil) rfl ?_;cases h;refine .aN (fun _ _ hb=>hb) rfl (.t1 (.tmp rfl)) (.refl _) trivial trivial
 ·replace h:=ae c3 h;refine .al (.mv rfl<|.wy rfl c_<|.mv rfl<|.wy rfl c_<|.cm rfl rfl rfl<|.mv rfl<|.gm c3<|.gm c3<|.gm c3<|.gm c3<|.gm c3<|.gm c3<|.bh rfl c3 rfl<|.ao rfl<|.nil) rfl ?_;cases h;refine .aN (fun _ _ hb=>hb) rfl (.t1 (.tmp rfl)) (.refl _) trivial trivial
def i_(a1:List UInt8)(a2:List UInt8):Option ((List UInt8)×Bool):=(iZ a1 a2).bind fun v3=>(if(!v3)=true then some (a1,false)else bO ((0:Int)<=(a2.length:Int)/\((a2.length:Int):Int)<=(a1.length:Int)) (some ((List.drop (a2.length:Int).toNat a1),true)))
theorem tN{a1:List UInt8}{a2:List UInt8}{r7:List UInt8}{r8:Bool}(h:i_ a1 a2=some (r7,r8)):aW PP 209 [] [cf a1,cf a2] [] (D.gV [cf r7,D.bool r8]):=by
 unfold i_ at h;refine .of Go.Proofs.Tryz.func209 rfl (by kernel_rfl) rfl rfl rfl rfl rfl rfl (fun A w0 L b=>?_);show Ok PP _ [(0,cf a1),(1,cf a2)] [] _ _;refine .al (.ao rfl<|.ao rfl<|.nil) rfl ?_;refine .sq ?_;obtain⟨v3,e4,h⟩:=bind_some h;refine .al (.mv rfl<|.mv rfl<|.ah (tQ e4) ⟨rfl,rfl,trivial⟩ trivial trivial<|.not rfl<|.nil) rfl ?_;by_cases c5:(!v3)=true
 ·replace h:=ab c5 h;refine .cq rfl c5 ?_;refine .al (.mv rfl<|.ao rfl<|.ao rfl<|.nil) rfl ?_;cases h;refine .aN (fun _ _ hb=>hb) rfl (.cons (.tmp rfl) (.t1 (.tmp rfl))) (.refl _) trivial trivial
 ·replace h:=ae c5 h;refine .cA rfl c5 ?_;refine .skip (Ok.on ?_);obtain⟨k6,h⟩:=ax h;refine .al (.mv rfl<|.mv rfl<|.wy rfl c_<|.Jo rfl rfl c_ k6.1 k6.2<|.ao rfl<|.ao rfl<|.nil) rfl ?_;cases h;refine .aN (fun _ _ hb=>hb) rfl (.cons (.tmp rfl) (.t1 (.tmp rfl))) (.refl _) trivial trivial
def gW(a1:List UInt8)(a2:List UInt8):Option ((List UInt8)×Bool):=(i_ a1 a2).bind fun(v3,v4)=>some (v3,v4)
theorem uK{a1:List UInt8}{a2:List UInt8}{r6:List UInt8}{r7:Bool}(h:gW a1 a2=some (r6,r7)):aW PP 144 [] [cf a1,cf a2] [] (D.gV [cf r6,D.bool r7]):=by
 unfold gW at h;refine .of Go.Proofs.Tryz.func144 rfl (by kernel_rfl) rfl rfl rfl rfl rfl rfl (fun A w0 L b=>?_);show Ok PP _ [(0,cf a1),(1,cf a2)] [] _ _;refine .al (.ao rfl<|.ao rfl<|.nil) rfl ?_;obtain⟨⟨v3,v4⟩,e5,h⟩:=bind_some h;refine .al (.mv rfl<|.mv rfl<|.ah (tN e5) ⟨rfl,rfl,trivial⟩ trivial trivial<|.ext rfl rfl<|.ext rfl rfl<|.ao rfl<|.ao rfl<|.nil) rfl ?_;cases h;refine .aN (fun _ _ hb=>hb) rfl (.cons (.tmp rfl) (.t1 (.tmp rfl))) (.refl _) trivial trivial
def qe(a1:List UInt8)(a2:List UInt8):Option ((List UInt8)×(List UInt8)×Bool):=(wz a1 a2).bind fun v3=>(if(decide (v3>=0))=true then bO ((0:Int)<=v3/\(v3:Int)<=(a1.length:Int)) (bO ((0:Int)<=(IntKind.i64.wrap (v3+(a2.length:Int)))/\((IntKind.i64.wrap (v3+(a2.length:Int))):Int)<=(a1.length:Int)) (some ((List.take v3.toNat a1),(List.drop (IntKind.i64.wrap (v3+(a2.length:Int))).toNat a1),true)))else some (a1,([]:List UInt8),false))
theorem Cd{a1:List UInt8}{a2:List UInt8}{r8:List UInt8}{r9:List UInt8}{r10:Bool}(h:qe a1 a2=some (r8,r9,r10)):aW PP 211 [] [cf a1,cf a2] [] (D.gV [cf r8,cf r9,D.bool r10]):=by
 unfold qe at h;refine .of Go.Proofs.Tryz.func211 rfl (by kernel_rfl) rfl rfl rfl rfl rfl rfl (fun A w0 L b=>?_);show Ok PP _ [(0,cf a1),(1,cf a2)] [] _ _;refine .al (.ao rfl<|.ao rfl<|.ao rfl<|.nil) rfl ?_;refine .sq ?_;obtain⟨v3,e4,h⟩:=bind_some h;refine .al (.mv rfl<|.mv rfl<|.ah (EK e4) ⟨rfl,rfl,trivial⟩ trivial trivial<|.ao rfl<|.nil) rfl ?_;refine .al (.mv rfl<|.cm rfl rfl rfl<|.nil) rfl ?_;by_cases c5:(decide (v3>=0))=true
 ·replace h:=ab c5 h;refine .cq rfl c5 ?_;obtain⟨k6,h⟩:=ax h;obtain⟨k7,h⟩:=ax h;refine .dh cn (.mv rfl<|.mv rfl<|.Ji rfl rfl c_ k6.1 k6.2<|.mv rfl<|.mv rfl<|.mv rfl<|.wy rfl c_<|.ar rfl rfl rfl<|.Jo rfl rfl c_ k7.1 k7.2<|.ao rfl<|.ao rfl<|.ao rfl<|.nil) rfl (by kernel_rfl) ?_;cases h;refine .aN (fun _ _ hb=>hb) rfl (.cons (.tmp rfl) (.cons (.tmp rfl) (.t1 (.tmp rfl)))) (.refl _) trivial trivial
 ·replace h:=ae c5 h;refine .cA rfl c5 ?_;refine .skip (Ok.on ?_);refine .al (.mv rfl<|.ao rfl<|.ao rfl<|.ao rfl<|.nil) rfl ?_;cases h;refine .aN (fun _ _ hb=>hb) rfl (.cons (.tmp rfl) (.cons (.tmp rfl) (.t1 (.tmp rfl)))) (.refl _) trivial trivial
def ll(a1:List UInt8)(a2:List UInt8):Option ((List UInt8)×(List UInt8)×Bool):=(qe a1 a2).bind fun(v3,v4,v5)=>some (v3,v4,v5)
theorem zS{a1:List UInt8}{a2:List UInt8}{r7:List UInt8}{r8:List UInt8}{r9:Bool}(h:ll a1 a2=some (r7,r8,r9)):aW PP 146 [] [cf a1,cf a2] [] (D.gV [cf r7,cf r8,D.bool r9]):=by
 unfold ll at h;refine .of Go.Proofs.Tryz.func146 rfl (by kernel_rfl) rfl rfl rfl rfl rfl rfl (fun A w0 L b=>?_);show Ok PP _ [(0,cf a1),(1,cf a2)] [] _ _;refine .al (.ao rfl<|.ao rfl<|.ao rfl<|.nil) rfl ?_;obtain⟨⟨v3,v4,v5⟩,e6,h⟩:=bind_some h;refine .al (.mv rfl<|.mv rfl<|.ah (Cd e6) ⟨rfl,rfl,trivial⟩ trivial trivial<|.ext rfl rfl<|.ext rfl rfl<|.ext rfl rfl<|.ao rfl<|.ao rfl<|.ao rfl<|.nil) rfl ?_;cases h;refine .aN (fun _ _ hb=>hb) rfl (.cons (.tmp rfl) (.cons (.tmp rfl) (.t1 (.tmp rfl)))) (.refl _) trivial trivial
def kV(a1:List UInt8):Option Bool:=(if(!(a1==([]:List UInt8)))=true then(y9 a1 ([48,49,50,51,52,53,54,55,56,57]:List UInt8)).bind fun v3=>some (v3==([]:List UInt8))else some false)
theorem qu{a1:List UInt8}{r5:Bool}(h:kV a1=some r5):aW PP 149 [] [cf a1] [] (D.bool r5):=by
 unfold kV at h;refine .of Go.Proofs.Tryz.func149 rfl (by kernel_rfl) rfl rfl rfl rfl rfl rfl (fun A w0 L b=>?_);show Ok PP _ [(0,cf a1)] [] _ _;refine .al (.ao rfl<|.nil) rfl ?_;by_cases c2:(!(a1==([]:List UInt8)))=true
 ·replace h:=ab c2 h;obtain⟨v3,e4,h⟩:=bind_some h;refine .al (.mv rfl<|.Jl rfl rfl<|.mv rfl<|.gy c2<|.mv rfl<|.gy c2<|.ah (Gp e4) ⟨rfl,rfl,trivial⟩ trivial trivial<|.gy c2<|.Hy rfl rfl<|.bm rfl c2 rfl<|.ao rfl<|.nil) rfl ?_;cases h;refine .aN (fun _ _ hb=>hb) rfl (.t1 (.tmp rfl)) (.refl _) trivial trivial
 ·replace h:=ae c2 h;refine .al (.mv rfl<|.Jl rfl rfl<|.mv rfl<|.gm c2<|.gm c2<|.gm c2<|.bh rfl c2 rfl<|.ao rfl<|.nil) rfl ?_;cases h;refine .aN (fun _ _ hb=>hb) rfl (.t1 (.tmp rfl)) (.refl _) trivial trivial
def jH(a1:List UInt8):Option Bool:=(kV a1).bind fun v2=>(if v2=true then(if(a1==([48]:List UInt8))=true then some true else(ix a1 0).bind fun v6=>some ((v6.toNat:Int) !=48))else some false)
theorem ou{a1:List UInt8}{r8:Bool}(h:jH a1=some r8):aW PP 147 [] [cf a1] [] (D.bool r8):=by
 unfold jH at h;refine .of Go.Proofs.Tryz.func147 rfl (by kernel_rfl) rfl rfl rfl rfl rfl rfl (fun A w0 L b=>?_);show Ok PP _ [(0,cf a1)] [] _ _;refine .al (.ao rfl<|.nil) rfl ?_;obtain⟨v2,e3,h⟩:=bind_some h;by_cases c4:v2=true
 ·replace h:=ab c4 h;by_cases c5:(a1==([48]:List UInt8))=true
  ·replace h:=ab c5 h;refine .al (.mv rfl<|.ah (qu e3) ⟨rfl,trivial⟩ trivial trivial<|.mv rfl<|.gy c4<|.mv rfl<|.gy c4<|.Hy rfl rfl<|.gy c4<|.mv rfl<|.gk c5<|.gk c5<|.gk c5<|.gy c4<|.bm rfl c5 rfl<|.bm rfl c4 rfl<|.ao rfl<|.nil) rfl ?_;cases h;refine .aN (fun _ _ hb=>hb) rfl (.t1 (.tmp rfl)) (.refl _) trivial trivial
  ·replace h:=ae c5 h;obtain⟨v6,e7,h⟩:=bind_some h;refine .al (.mv rfl<|.ah (qu e3) ⟨rfl,trivial⟩ trivial trivial<|.mv rfl<|.gy c4<|.mv rfl<|.gy c4<|.Hy rfl rfl<|.gy c4<|.mv rfl<|.gz c5<|.mv rfl<|.gz c5<|.Jx rfl rfl c_ (ag e7).1 (ag e7).2<|.gz c5<|.cm rfl rfl rfl<|.gy c4<|.bh rfl c5 rfl<|.bm rfl c4 rfl<|.ao rfl<|.nil) rfl ?_;cases h;refine .aN (fun _ _ hb=>hb) rfl (.t1 (.tmp rfl)) (.refl _) trivial trivial
 ·replace h:=ae c4 h;refine .al (.mv rfl<|.ah (qu e3) ⟨rfl,trivial⟩ trivial trivial<|.mv rfl<|.gm c4<|.gm c4<|.gm c4<|.gu<|.gu<|.gu<|.gm c4<|.bh rfl c4 rfl<|.ao rfl<|.nil) rfl ?_;cases h;refine .aN (fun _ _ hb=>hb) rfl (.t1 (.tmp rfl)) (.refl _) trivial trivial
def iw(v27:List UInt8)(v42:Nat)(v43:Int):Option (St (Nat×Int) Nat):=(if(decide (v43<(v27.length:Int)))=true then(mV 10).bind fun v49=>(p6 v42 v49).bind fun v51=>some (St.next (v51,(IntKind.i64.wrap (v43+1))))else some (St.done v42))
def sQ(a1:List UInt8):Option (((Bool×Nat)×Nat)×Int):=(if(decide ((a1.length:Int)>1000))=true then some (((false,0),0),5)else(gW a1 ([45]:List UInt8)).bind fun(v3,v4)=>(mV 1).bind fun v6=>((ll v3 ([47]:List UInt8)).bind fun(v10,v11,v12)=>(if v12=true then(jH v10).bind fun v15=>(if(!v15)=true then some (Ex.ret (((false,0),0),4))else(jH v11).bind fun v18=>(if(!v18)=true then some (Ex.ret (((false,0),0),4))else(nU v10).bind fun v21=>(nU v11).bind fun v23=>(if(((aA v23).length:Int)==0)=true then some (Ex.ret (((false,0),0),9))else some (Ex.cp (v21,v23)))))else(ll v3 ([46]:List UInt8)).bind fun(v26,v27,v28)=>((jH v26).bind fun v32=>(if(!v32)=true then some (Ex.ret (((false,0),0),4))else(if v28=true then(kV v27).bind fun v36=>(if(!v36)=true then some (Ex.ret (((false,0),0),4))else some (Ex.cp ()))else some (Ex.cp ())))).bind fun o30=>(match o30 with|Ex.cp ()=>bO (v26.length+v27.length<=9223372036854775807) ((nU (v26++v27)).bind fun v40=>(Loop (fun(s:Nat×Int)=>iw v27 s.1 s.2) (v6,0)).bind fun v53=>some (Ex.cp (v40,v53)))|Ex.ret (((r54,r55),r56),r57)=>some (Ex.ret (((r54,r55),r56),r57))))).bind fun o8=>(match o8 with|Ex.cp (v58,v59)=>(cD v4 v58).bind fun(v60,v61)=>(eG v60 v61 v59).bind fun((v63,v64),v65)=>some (((v63,v64),v65),0)|Ex.ret (((r67,r68),r69),r70)=>some (((r67,r68),r69),r70)))
theorem E1{a1:List UInt8}{r71:Bool}{r72:Nat}{r73:Nat}{r74:Int}(h:sQ a1=some (((r71,r72),r73),r74)):aW PP 23 [] [cf a1] [] (D.gV [D.agg ([D.bool r71,aj r72,aj r73]),D.int .i64 r74]):=by
 unfold sQ at h;refine .of Go.Proofs.Tryz.func23 rfl (by kernel_rfl) rfl rfl rfl rfl rfl rfl (fun A w0 L b=>?_);show Ok PP _ [(0,cf a1)] [] _ _;refine .al (.fW ([D.bool false,aj 0,aj 0]) az ⟨.refl _,aV,aV,trivial⟩ rfl<|.ao rfl<|.nil) rfl ?_;refine .sq ?_;refine .al (.mv rfl<|.wy rfl c_<|.cm rfl rfl rfl<|.nil) rfl ?_;by_cases c2:(decide ((a1.length:Int)>1000))=true
 ·replace h:=ab c2 h;refine .cq rfl c2 ?_;refine .al (.pC ([D.bool false,aj 0,aj 0]) [] az cw trivial trivial ⟨.refl _,aV,aV,trivial⟩<|.cH ([D.bool false,aj 0,aj 0]) rfl rfl rfl aa rfl rfl rfl<|.ao rfl<|.nil) rfl ?_;cases h;refine .aN (fun _ _ hb=>hb) rfl (.cons (.agg rfl rfl aa rfl) (.t1 (.tmp rfl))) (.refl _) trivial trivial
 ·replace h:=ae c2 h;refine .cA rfl c2 ?_;refine .skip (Ok.on ?_);obtain⟨⟨v3,v4⟩,e5,h⟩:=bind_some h;refine .al (.mv rfl<|.ah (uK e5) ⟨rfl,rfl,trivial⟩ trivial trivial<|.mv rfl<|.ext rfl rfl<|.ext rfl rfl<|.ao rfl<|.ao rfl<|.nil) rfl ?_;obtain⟨v6,e7,h⟩:=bind_some h;refine .al (.ah (uG e7) ⟨rfl,trivial⟩ trivial trivial<|.ao rfl<|.ao rfl<|.nil) rfl ?_;obtain⟨o8,hp9,h⟩:=bind_some h;refine .cz (fun i=>o8=Ex.cp i) (fun(i:Nat×Nat)=>[(2,D.ref 2 0),(4,D.bool v4),(5,aj i.1),(6,aj i.2)]) (fun(i:Nat×Nat)=>[(2,Hp.box 28 ([D.bool false,aj 0,aj 0]))]) ?_ ?_
  ·have ho1:=h;have h:=hp9;obtain⟨⟨v10,v11,v12⟩,e13,h⟩:=bind_some h;refine .al (.mv rfl<|.ah (zS e13) ⟨rfl,rfl,trivial⟩ trivial trivial<|.mv rfl<|.ext rfl rfl<|.ext rfl rfl<|.ext rfl rfl<|.ao rfl<|.ao rfl<|.ao rfl<|.nil) rfl ?_;refine .al (.mv rfl<|.nil) rfl ?_;by_cases c14:v12=true
   ·replace h:=ab c14 h;refine .cq rfl c14 ?_;refine .sq ?_;obtain⟨v15,e16,h⟩:=bind_some h;by_cases c17:(!v15)=true
    ·replace h:=ab c17 h;refine .al (.mv rfl<|.ah (ou e16) ⟨rfl,trivial⟩ trivial trivial<|.not rfl<|.mv rfl<|.gk c17<|.gk c17<|.gk c17<|.bm rfl c17 rfl<|.nil) rfl ?_;refine .cq rfl rfl ?_;refine .al (.pC ([D.bool false,aj 0,aj 0]) [] az cw trivial trivial ⟨.refl _,aV,aV,trivial⟩<|.cH ([D.bool false,aj 0,aj 0]) rfl rfl rfl aa rfl rfl rfl<|.ao rfl<|.nil) rfl ?_;cases h;have h:=ho1;cases h;refine .aN (fun _ _ hb=>hb) rfl (.cons (.agg rfl rfl aa rfl) (.t1 (.tmp rfl))) (.refl _) trivial trivial
    ·replace h:=ae c17 h;obtain⟨v18,e19,h⟩:=bind_some h;refine .al (.mv rfl<|.ah (ou e16) ⟨rfl,trivial⟩ trivial trivial<|.not rfl<|.mv rfl<|.gz c17<|.mv rfl<|.gz c17<|.ah (ou e19) ⟨rfl,trivial⟩ trivial trivial<|.gz c17<|.not rfl<|.bh rfl c17 rfl<|.nil) rfl ?_;by_cases c20:(!v18)=true
     ·replace h:=ab c20 h;refine .cq rfl c20 ?_;refine .al (.pC ([D.bool false,aj 0,aj 0]) [] az cw trivial trivial ⟨.refl _,aV,aV,trivial⟩<|.cH ([D.bool false,aj 0,aj 0]) rfl rfl rfl aa rfl rfl rfl<|.ao rfl<|.nil) rfl ?_;cases h;have h:=ho1;cases h;refine .aN (fun _ _ hb=>hb) rfl (.cons (.agg rfl rfl aa rfl) (.t1 (.tmp rfl))) (.refl _) trivial trivial
     ·replace h:=ae c20 h;refine .cA rfl c20 ?_;refine .skip (Ok.on ?_);obtain⟨v21,e22,h⟩:=bind_some h;obtain⟨v23,e24,h⟩:=bind_some h;refine .al (.mv rfl<|.ah (zN e22) ⟨rfl,trivial⟩ trivial trivial<|.mv rfl<|.ah (zN e24) ⟨rfl,trivial⟩ trivial trivial<|.ao rfl<|.ao rfl<|.nil) rfl ?_;refine .al (.mv rfl<|.yQ rfl au<|.cm rfl rfl rfl<|.nil) rfl ?_;by_cases c25:(((aA v23).length:Int)==0)=true
      ·replace h:=ab c25 h;refine .cq rfl c25 ?_;refine .al (.pC ([D.bool false,aj 0,aj 0]) [] az cw trivial trivial ⟨.refl _,aV,aV,trivial⟩<|.cH ([D.bool false,aj 0,aj 0]) rfl rfl rfl aa rfl rfl rfl<|.ao rfl<|.nil) rfl ?_;cases h;have h:=ho1;cases h;refine .aN (fun _ _ hb=>hb) rfl (.cons (.agg rfl rfl aa rfl) (.t1 (.tmp rfl))) (.refl _) trivial trivial
      ·replace h:=ae c25 h;refine .cA rfl c25 ?_;refine .skip (fun _ _ hs=>⟨(v21,v23),(sj h),hs.sub (.of rfl) (.of rfl) rfl rfl⟩)
   ·replace h:=ae c14 h;refine .cA rfl c14 ?_;obtain⟨⟨v26,v27,v28⟩,e29,h⟩:=bind_some h;refine .al (.mv rfl<|.ah (zS e29) ⟨rfl,rfl,trivial⟩ trivial trivial<|.mv rfl<|.ext rfl rfl<|.ext rfl rfl<|.ext rfl rfl<|.ao rfl<|.ao rfl<|.ao rfl<|.nil) rfl ?_;obtain⟨o30,hp31,h⟩:=bind_some h;refine .cz (fun i=>o30=Ex.cp i) (fun(i:Unit)=>[(2,D.ref 2 0),(4,D.bool v4),(6,aj v6),(10,cf v26),(11,cf v27)]) (fun(i:Unit)=>[(2,Hp.box 28 ([D.bool false,aj 0,aj 0]))]) ?_ ?_
    ·have ho2:=h;have h:=hp31;obtain⟨v32,e33,h⟩:=bind_some h;by_cases c34:(!v32)=true
     ·replace h:=ab c34 h;refine .al (.mv rfl<|.ah (ou e33) ⟨rfl,trivial⟩ trivial trivial<|.not rfl<|.mv rfl<|.gk c34<|.gk c34<|.gu<|.gu<|.gu<|.gk c34<|.bm rfl c34 rfl<|.nil) rfl ?_;refine .cq rfl rfl ?_;refine .al (.pC ([D.bool false,aj 0,aj 0]) [] az cw trivial trivial ⟨.refl _,aV,aV,trivial⟩<|.cH ([D.bool false,aj 0,aj 0]) rfl rfl rfl aa rfl rfl rfl<|.ao rfl<|.nil) rfl ?_;cases h;have h:=ho2;cases h;have h:=ho1;cases h;refine .aN (fun _ _ hb=>hb) rfl (.cons (.agg rfl rfl aa rfl) (.t1 (.tmp rfl))) (.refl _) trivial trivial
     ·replace h:=ae c34 h;by_cases c35:v28=true
      ·replace h:=ab c35 h;obtain⟨v36,e37,h⟩:=bind_some h;refine .al (.mv rfl<|.ah (ou e33) ⟨rfl,trivial⟩ trivial trivial<|.not rfl<|.mv rfl<|.gz c34<|.mv rfl<|.gz c34<|.mv rfl<|.gy c35<|.mv rfl<|.gy c35<|.ah (qu e37) ⟨rfl,trivial⟩ trivial trivial<|.gy c35<|.not rfl<|.gz c34<|.bm rfl c35 rfl<|.bh rfl c34 rfl<|.nil) rfl ?_;by_cases c38:(!v36)=true
       ·replace h:=ab c38 h;refine .cq rfl c38 ?_;refine .al (.pC ([D.bool false,aj 0,aj 0]) [] az cw trivial trivial ⟨.refl _,aV,aV,trivial⟩<|.cH ([D.bool false,aj 0,aj 0]) rfl rfl rfl aa rfl rfl rfl<|.ao rfl<|.nil) rfl ?_;cases h;have h:=ho2;cases h;have h:=ho1;cases h;refine .aN (fun _ _ hb=>hb) rfl (.cons (.agg rfl rfl aa rfl) (.t1 (.tmp rfl))) (.refl _) trivial trivial
       ·replace h:=ae c38 h;refine .cA rfl c38 ?_;refine .skip (fun _ _ hs=>⟨(),(sj h),hs.sub (.of rfl) (.of rfl) rfl rfl⟩)
      ·replace h:=ae c35 h;refine .al (.mv rfl<|.ah (ou e33) ⟨rfl,trivial⟩ trivial trivial<|.not rfl<|.mv rfl<|.gz c34<|.mv rfl<|.gz c34<|.mv rfl<|.gm c35<|.gm c35<|.gm c35<|.gz c34<|.bh rfl c35 rfl<|.bh rfl c34 rfl<|.nil) rfl ?_;refine .cA rfl (by decide) ?_;refine .skip (fun _ _ hs=>⟨(),(sj h),hs.sub (.of rfl) (.of rfl) rfl rfl⟩)
    ·rintro⟨⟩ rfl
     try dsimp only
     obtain⟨k39,h⟩:=ax h;obtain⟨v40,e41,h⟩:=bind_some h;refine .al (.mv rfl<|.mv rfl<|.EM rfl rfl k39<|.ah (zN e41) ⟨rfl,trivial⟩ trivial trivial<|.ao rfl<|.nil) rfl ?_;refine .al (.mv rfl<|.wy rfl c_<|.mv rfl<|.nil) rfl ?_;obtain⟨o44,hl45,h⟩:=bind_some h;have ho2:=h;refine .block (.cc (fun(s:Nat×Int)=>[(2,D.ref 2 0),(4,D.bool v4),(5,aj v40),(6,aj s.1),(70,D.int .i64 (v27.length:Int)),(71,D.int .i64 s.2)]) (fun(s:Nat×Int)=>[(2,Hp.box 28 ([D.bool false,aj 0,aj 0]))]) hl45 (.of rfl) (.of rfl) rfl rfl ?_);rintro⟨v42,v43⟩ st46 hb47;have h:iw v27 v42 v43=some st46:=hb47;unfold iw at h
     try dsimp only
     refine .al (.cm rfl rfl rfl<|.nil) rfl ?_;refine .sq ?_;by_cases c48:(decide (v43<(v27.length:Int)))=true
     ·replace h:=ab c48 h;refine .cq rfl c48 ?_;refine .skip (Ok.on ?_);refine .sq ?_;refine .block ?_;obtain⟨v49,e50,h⟩:=bind_some h;obtain⟨v51,e52,h⟩:=bind_some h;refine .region (.mv rfl<|.ah (uG e50) ⟨rfl,trivial⟩ trivial trivial<|.ah (s6 e52) ⟨rfl,rfl,trivial⟩ trivial trivial<|.ao rfl<|.nil) rfl (Ok.on ?_);refine .region (.ar rfl rfl rfl<|.mv rfl<|.nil) rfl (fun _ _ hs=>⟨(v51,(IntKind.i64.wrap (v43+1))),(sj h),hs.sub (.of rfl) (.of rfl) rfl rfl⟩)
     ·replace h:=ae c48 h;refine .cA rfl c48 ?_;refine .exit (fun a w hs=>⟨_,(sj h),fun e=>by subst e;have h:=ho2;exact aZ (⟨(v40,v42),(sj h),hs.sub (.of rfl) (.of rfl) rfl rfl⟩)⟩)
  ·rintro⟨v58,v59⟩ rfl
   try dsimp only
   obtain⟨⟨v60,v61⟩,e62,h⟩:=bind_some h;obtain⟨⟨⟨v63,v64⟩,v65⟩,e66,h⟩:=bind_some h;refine .al (.mv rfl<|.mv rfl<|.ah (eo e62) ⟨rfl,rfl,trivial⟩ trivial trivial<|.mv rfl<|.ah (kR e66) ⟨rfl,rfl,trivial⟩ trivial trivial<|.cH ([D.bool v63,aj v64,aj v65]) rfl rfl rfl aa rfl rfl rfl<|.ao rfl<|.nil) rfl ?_;cases h;refine .aN (fun _ _ hb=>hb) rfl (.cons (.agg rfl rfl aa rfl) (.t1 (.tmp rfl))) (.refl _) trivial trivial
end
end Go.Am
namespace Go.Am
open Go.RowKit
def yP(s:List UInt8):Bool:= !s.isEmpty&&s.all fun b=>decide (48<=b.toNat)&&decide (b.toNat<=57)
def uN(s:List UInt8):Bool:=yP s&&(s==[48]|| !(s.head?==some 48))
def jB(c:UInt8):List UInt8->List UInt8×List UInt8×Bool
 |[]=>([],[],false)
 |b::l=>if b=c then([],l,true)else(b::(jB c l).1,(jB c l).2.1,(jB c l).2.2)
theorem tU{s:List UInt8}(h:yP s=true):uJ s/\s≠[]:=by
 unfold yP at h;rw[Bool.and_eq_true]at h;refine⟨fun b hb=>?_,fun e=>by rw[e]at h;simp at h⟩;have:=List.all_eq_true.1 h.2 b hb;simp only[Bool.and_eq_true,decide_eq_true_eq]at this;exact this
theorem tE(c:UInt8):∀l,(jB c l).1.length+(jB c l).2.1.length<=l.length
 |[]=>Nat.le_refl _
 |b::l=>by
  have:=tE c l;unfold jB
  split
  ·simp only[List.length_nil,List.length_cons];omega
  ·simp only[List.length_cons];omega
theorem x4(c:UInt8):∀l,(jB c l).2.2=false->jB c l=(l,[],false)
 |[],_=>rfl
 |b::l,h=>by
  unfold jB at h|-;by_cases e:b=c
  ·rw[if_pos e]at h;cases h
  ·rw[if_neg e]at h|-;rw[x4 c l h]
theorem dropWhile_nil{α:Type}(p:α->Bool):∀(l:List α),l.dropWhile p=[]↔∀x∈l,p x=true
 |[]=>by simp
 |a::l=>by
  by_cases h:p a=true
  ·rw[List.dropWhile_cons_of_pos h,dropWhile_nil p l];simp[h]
  ·rw[List.dropWhile_cons_of_neg h];simp[h]
theorem ob{α:Type}(p:α->Bool):∀(l:List α) (x:α) (m:List α),l.dropWhile p=x::m->¬p x=true
 |[],x,m,h=>by cases h
 |a::l,x,m,h=>by
  by_cases hp:p a=true
  ·rw[List.dropWhile_cons_of_pos hp]at h;exact ob p l x m h
  ·rw[List.dropWhile_cons_of_neg hp]at h;injection h with h1 h2;subst h1;exact hp
theorem BQ(l cs:List UInt8):Lib.trimS l cs=[]↔∀b∈l,cs.contains b=true:=by
 unfold Lib.trimS Lib.trimLeftS Lib.trimRightS;rw[dropWhile_nil];have hr:=dropWhile_nil (cs.contains ·) l.reverse
 constructor
 ·intro h;cases e:l.reverse.dropWhile (cs.contains ·)with
  |nil=>
   rw[e]at hr;intro b hb;exact hr.1 rfl b (List.mem_reverse.2 hb)
  |cons x m=>
   exfalso
   refine ob _ _ _ _ e (h x ?_);rw[e];simp
 ·intro h;have:l.reverse.dropWhile (cs.contains ·)=[]:=hr.2 fun b hb=>h b (List.mem_reverse.1 hb);rw[this];simp
theorem C9(b:UInt8):([48,49,50,51,52,53,54,55,56,57]:List UInt8).contains b=(decide (48<=b.toNat)&&decide (b.toNat<=57)):=by
 have key:∀n:Nat,n<256->([48,49,50,51,52,53,54,55,56,57]:List UInt8).contains (UInt8.ofNat n)=(decide (48<=n)&&decide (n<=57)):=by decide+kernel
 have:=key b.toNat b.toNat_lt;rw[UInt8.ofNat_toNat]at this;exact this
theorem uY(s:List UInt8)(hl:s.length<=1000000):kV s=some (yP s):=by
 unfold kV yP
 cases s with
 |nil=>rfl
 |cons a t=>
  have h1:(!((a::t)==([]:List UInt8)))=true:=rfl;rw[if_pos h1];have h2:y9 (a::t) ([48,49,50,51,52,53,54,55,56,57]:List UInt8)=some (Lib.trimS (a::t) [48,49,50,51,52,53,54,55,56,57]):=cG ⟨by omega,by decide,by decide⟩ rfl;rw[h2,Option.bind_some]
  congr 1
  have h3:=BQ (a::t) [48,49,50,51,52,53,54,55,56,57];simp only[C9]at h3;have h4:(!(a::t).isEmpty)=true:=rfl;rw[h4,Bool.true_and];by_cases e:Lib.trimS (a::t) [48,49,50,51,52,53,54,55,56,57]=[]
  ·rw[e,List.all_eq_true.2 (h3.1 e)];rfl
  ·have h5:((a::t).all fun b=>decide (48<=b.toNat)&&decide (b.toNat<=57))=false:=by
    apply Bool.eq_false_iff.2;intro h;exact e (h3.2 (List.all_eq_true.1 h))
   rw[h5,beq_eq_false_iff_ne];exact e
theorem uz(s:List UInt8)(hl:s.length<=1000000):jH s=some (uN s):=by
 unfold jH uN;rw[uY s hl,Option.bind_some];by_cases hd:yP s=true
 ·rw[if_pos hd,hd,Bool.true_and];by_cases h0:(s==([48]:List UInt8))=true
  ·rw[if_pos h0,h0];rfl
  ·rw[if_neg h0];have h0':(s==([48]:List UInt8))=false:=by simpa using h0
   rw[h0',Bool.false_or];obtain⟨_,hne⟩:=tU hd
   cases s with
   |nil=>exact absurd rfl hne
   |cons a t=>
    have:ix (a::t) 0=some a:=rfl;rw[this,Option.bind_some,List.head?_cons]
    congr 1
    by_cases e:a=48
    ·subst e;rfl
    ·have h1:((a.toNat:Int) !=48)=true:=by
      rw[bne_iff_ne];intro h;apply e;apply UInt8.toNat_inj.1;rw[show(48:UInt8).toNat=48 from rfl];omega
     have h2:((some a==some (48:UInt8)))=false:=by
      rw[beq_eq_false_iff_ne];intro h;injection h with h;exact e h
     rw[h1,h2];rfl
 ·rw[if_neg hd];have:yP s=false:=by simpa using hd
  rw[this];rfl
theorem Aq(c:UInt8):∀l,(jB c l=if Lib.indexByte l c=-1 then(l,[],false)else(l.take (Lib.indexByte l c).toNat,l.drop ((Lib.indexByte l c).toNat+1),true))/\-1<=Lib.indexByte l c/\Lib.indexByte l c<(l.length:Int)
 |[]=>by simp[jB,Lib.indexByte]
 |b::l=>by
  obtain⟨h1,h2,h3⟩:=Aq c l;have hv:Lib.indexByte (b::l) c=if b==c then 0 else if Lib.indexByte l c==-1 then-1 else Lib.indexByte l c+1:=rfl;rw[hv];unfold jB;by_cases e:b=c
  ·have e':(b==c)=true:=by simpa using e
   rw[if_pos e,if_pos e'];refine⟨?_,by omega,by simp only[List.length_cons];omega⟩;rw[if_neg (by decide)];rfl
  ·have e':¬(b==c)=true:=by simpa using e
   rw[if_neg e,if_neg e',h1];by_cases h0:Lib.indexByte l c=-1
   ·have h0':(Lib.indexByte l c==-1)=true:=by simpa using h0
    rw[if_pos h0',if_pos h0,if_pos rfl];exact⟨rfl,by omega,by simp only[List.length_cons];omega⟩
   ·have h0':¬(Lib.indexByte l c==-1)=true:=by simpa using h0
    rw[if_neg h0',if_neg h0,if_neg (by omega)];have h4:(Lib.indexByte l c+1).toNat=(Lib.indexByte l c).toNat+1:=by omega
    refine⟨?_,by omega,by simp only[List.length_cons];omega⟩;rw[h4];rfl
theorem CL(s:List UInt8)(c:UInt8)(hl:s.length<=1000000):ll s [c]=some (jB c s):=by
 obtain⟨h1,h2,h3⟩:=Aq c s;unfold ll qe;have hx:wz s [c]=some (Lib.indexByte s c):=cG rfl rfl;rw[hx,h1];simp only[Option.bind_some];by_cases h0:Lib.indexByte s c=-1
 ·rw[if_neg (by rw[h0];decide),if_pos h0];rfl
 ·rw[if_pos (decide_eq_true (by omega)),if_neg h0];have e:IntKind.i64.wrap (Lib.indexByte s c+(([c]:List UInt8).length:Int))=Lib.indexByte s c+1:=i64_in (by simp only[List.length_cons,List.length_nil];omega);rw[e,aG (by omega),aG (by omega)];have h4:(Lib.indexByte s c+1).toNat=(Lib.indexByte s c).toNat+1:=by omega
  rw[h4];rfl
theorem xr(s:List UInt8)(hl:s.length<=1000000):gW s [45]=some (if s.head?=some 45 then(s.drop 1,true)else(s,false)):=by
 unfold gW i_ iZ
 cases s with
 |nil=>rfl
 |cons a t=>
  rw[if_pos (decide_eq_true (by simp only[List.length_cons,List.length_nil];omega)),aG (by simp only[List.length_cons,List.length_nil];omega)];simp only[Option.bind_some];have h1:(List.take ((([45]:List UInt8).length:Nat):Int).toNat (a::t)==([45]:List UInt8))=(a==45):=by
   show([a]==[45])=(a==45);by_cases e:a=45
   ·subst e;rfl
   ·have h2:(a==45)=false:=by simpa using e
    rw[h2,beq_eq_false_iff_ne];intro h;injection h with h;exact e h
  rw[h1];by_cases e:a=45
  ·subst e;rw[if_neg (by decide),aG (by simp only[List.length_cons,List.length_nil];omega),if_pos (show(45::t).head?=some 45 from rfl)];rfl
  ·have h2:(a==45)=false:=by simpa using e
   have h3:¬(a::t).head?=some 45:=by intro h;injection h with h;exact e h
   rw[h2,if_neg h3];rfl
def tt(neg:Bool)(t:List UInt8):Rat×Int:=
 if(jB 47 t).2.2 then
  if !uN (jB 47 t).1 then(0,4)else if !uN (jB 47 t).2.1 then(0,4)else if ke (jB 47 t).2.1=0 then(0,9)else(mkRat (sg neg (ke (jB 47 t).1)) (ke (jB 47 t).2.1),0)
 else if !uN (jB 46 t).1 then(0,4)else if(jB 46 t).2.2&& !yP (jB 46 t).2.1 then(0,4)
 else(mkRat (sg neg (ke ((jB 46 t).1++(jB 46 t).2.1))) (10^(jB 46 t).2.1.length),0)
def wu(s:List UInt8):Rat×Int:=if 1000<s.length then(0,5)else if s.head?=some 45 then tt true (s.drop 1)else tt false s
theorem AO(a:List UInt8)(hl:a.length<=1000):Loop (fun(s:Nat×Int)=>iw a s.1 s.2) (1,0)=some (10^a.length):=by
 have hb:∀i,i<=1000->sm (10^i):=by
  intro i hi;have h1:10^i<2^(4*i+1):=Nat.lt_of_le_of_lt (Nat.pow_le_pow_left (show 10<=16 by decide) i) (by rw[show(16:Nat)=2^4 from rfl,←Nat.pow_mul];exact Nat.pow_lt_pow_right (by decide) (by omega));exact jl (gg.2 h1) (by omega)
 obtain⟨r,hr,rfl⟩:=bZ (body:=fun(s:Nat×Int)=>iw a s.1 s.2) (1,0) (fun s=>∃i:Nat,i<=a.length/\s=(10^i,(i:Int))) (fun s=>(a.length-s.2).toNat) (fun r=>r=10^a.length) ⟨0,Nat.zero_le _,rfl⟩ (by
  rintro s ⟨i,hi,rfl⟩;simp only;unfold iw;by_cases h:i<a.length
  ·left
   have e10:mV (10:Int)=some 10:=kc (n:=10) (by omega);rw[if_pos (decide_eq_true (by omega)),e10,Option.bind_some,kW (hb i (by omega)) (kG (by decide)),Option.bind_some];have e4:IntKind.i64.wrap ((i:Int)+1)=((i+1:Nat):Int):=by rw[i64_in (by omega)];omega
   rw[e4];exact⟨_,rfl,⟨i+1,h,by rw[Nat.pow_succ]⟩,by simp only;omega⟩
  ·right
   rw[if_neg (by simp;omega)];exact⟨_,rfl,by rw[show i=a.length from by omega]⟩)
 exact hr
theorem og{s:List UInt8}(h:yP s=true)(hl:s.length<=1000):nU s=some (ke s):=cG ⟨by omega,(tU h).1⟩ rfl
theorem pW{s:List UInt8}(h:yP s=true)(hl:s.length<=2000):sm (ke s):=jl (Fv (tU h).1 (by omega)) (by omega)
theorem CH{n:Nat}(h:n<=1000):sm (10^n):=by
 have h1:10^n<2^(4*n+1):=Nat.lt_of_le_of_lt (Nat.pow_le_pow_left (show 10<=16 by decide) n) (by rw[show(16:Nat)=2^4 from rfl,←Nat.pow_mul];exact Nat.pow_lt_pow_right (by decide) (by omega));exact jl (gg.2 h1) (by omega)
theorem tg{s:List UInt8}(h:uN s=true):yP s=true:=by unfold uN at h;rw[Bool.and_eq_true]at h;exact h.1
theorem zb{a b:List UInt8}(h:yP a=true)(k:yP b=true):yP (a++b)=true:=by
 unfold yP at*;rw[Bool.and_eq_true]at*;refine⟨?_,by rw[List.all_append,h.2,k.2];rfl⟩
 cases a with
 |nil=>simp at h
 |cons x l=>rfl
theorem zR(neg:Bool)(n d:Nat)(hd:d≠0)(hn:sm n)(hs:sm d):((cD neg n).bind fun(v60,v61)=>(eG v60 v61 d).bind fun((v63,v64),v65)=>some (((v63,v64),v65),(0:Int)))=some (rp (mkRat (sg neg n) d),0):=by
 rw[dC,Option.bind_some];dsimp only;rw[jN _ _ hd (by rw[nK];exact hn) hs];rfl
theorem vP(neg:Bool)(t:List UInt8)(hl:t.length<=1000):
  ((ll t ([47]:List UInt8)).bind fun(v10,v11,v12)=>(if v12=true then(jH v10).bind fun v15=>(if(!v15)=true then some (Ex.ret (((false,0),0),4))else(jH v11).bind fun v18=>(if(!v18)=true then some (Ex.ret (((false,0),0),4))else(nU v10).bind fun v21=>(nU v11).bind fun v23=>(if(((aA v23).length:Int)==0)=true then some (Ex.ret (((false,0),0),9))else some (Ex.cp (v21,v23)))))else(ll t ([46]:List UInt8)).bind fun(v26,v27,v28)=>((jH v26).bind fun v32=>(if(!v32)=true then some (Ex.ret (((false,0),0),4))else(if v28=true then(kV v27).bind fun v36=>(if(!v36)=true then some (Ex.ret (((false,0),0),4))else some (Ex.cp ()))else some (Ex.cp ())))).bind fun o30=>(match o30 with|Ex.cp ()=>bO (v26.length+v27.length<=9223372036854775807) ((nU (v26++v27)).bind fun v40=>(Loop (fun(s:Nat×Int)=>iw v27 s.1 s.2) (1,0)).bind fun v53=>some (Ex.cp (v40,v53)))|Ex.ret (((r54,r55),r56),r57)=>some (Ex.ret (((r54,r55),r56),r57)))):Option (Ex (Nat×Nat) (((Bool×Nat)×Nat)×Nat))).bind (fun o8=>(match o8 with|Ex.cp (v58,v59)=>(cD neg v58).bind fun(v60,v61)=>(eG v60 v61 v59).bind fun((v63,v64),v65)=>some (((v63,v64),v65),(0:Int))|Ex.ret (((r67,r68),r69),r70)=>some (((r67,r68),r69),(r70:Int))))
  =some (rp (tt neg t).1,(tt neg t).2):=by
 have c1:=tE 47 t;have c2:=tE 46 t;have hn46:=x4 46 t;rw[CL t 47 (by omega),CL t 46 (by omega)];unfold tt;generalize jB 47 t=A at*;generalize jB 46 t=B at*;obtain⟨b,a,f⟩:=A;obtain⟨b',a',f'⟩:=B;simp only at c1 c2 hn46;simp only[Option.bind_some];cases f
 ·simp only[Option.bind_some,Bool.false_eq_true,if_false,if_true,Bool.not_true,Bool.not_false,Bool.false_and,Bool.true_and];rw[uz _ (by omega),uY _ (by omega)];cases h1:uN b'
  ·simp only[Option.bind_some,Bool.false_eq_true,if_false,if_true,Bool.not_true,Bool.not_false,Bool.false_and,Bool.true_and];rfl
  ·have d1:=tg h1;cases f'
   ·have hn:=hn46 rfl;injection hn with e1 hn;injection hn with e2 _;subst e1;subst e2;simp only[Option.bind_some,Bool.false_eq_true,if_false,if_true,Bool.not_true,Bool.not_false,Bool.false_and,Bool.true_and];rw[aG (by simp only[List.length_nil];omega),og (by rw[List.append_nil];exact d1) (by rw[List.append_nil];exact hl),Option.bind_some,AO _ (by decide),Option.bind_some,Option.bind_some];dsimp only;have hfin:=zR neg (ke (b'++[])) (10^([]:List UInt8).length) (by decide) (pW (by rw[List.append_nil];exact d1) (by rw[List.append_nil];omega)) (CH (by decide));exact hfin
   ·cases h3:yP a'
    ·simp only[Option.bind_some,Bool.false_eq_true,if_false,if_true,Bool.not_true,Bool.not_false,Bool.false_and,Bool.true_and];rfl
    ·simp only[Option.bind_some,Bool.false_eq_true,if_false,if_true,Bool.not_true,Bool.not_false,Bool.false_and,Bool.true_and];have d2:=zb d1 h3;have hl2:(b'++a').length<=1000:=by rw[List.length_append];omega
     rw[aG (by omega),og d2 hl2,Option.bind_some,AO _ (by omega),Option.bind_some,Option.bind_some];dsimp only;have hfin:=zR neg (ke (b'++a')) (10^a'.length) (Nat.pos_iff_ne_zero.1 (Nat.pow_pos (by decide))) (pW d2 (by omega)) (CH (by omega));exact hfin
 ·simp only[Option.bind_some,Bool.false_eq_true,if_false,if_true,Bool.not_true,Bool.not_false,Bool.false_and,Bool.true_and];rw[uz _ (by omega),uz _ (by omega)];cases h1:uN b
  ·simp only[Option.bind_some,Bool.false_eq_true,if_false,if_true,Bool.not_true,Bool.not_false,Bool.false_and,Bool.true_and];rfl
  ·cases h2:uN a
   ·simp only[Option.bind_some,Bool.false_eq_true,if_false,if_true,Bool.not_true,Bool.not_false,Bool.false_and,Bool.true_and];rfl
   ·have d1:=tg h1;have d2:=tg h2;simp only[Option.bind_some,Bool.false_eq_true,if_false,if_true,Bool.not_true,Bool.not_false,Bool.false_and,Bool.true_and];rw[og d1 (by omega),og d2 (by omega)];simp only[Option.bind_some,Bool.false_eq_true,if_false,if_true,Bool.not_true,Bool.not_false,Bool.false_and,Bool.true_and];rw[pL];by_cases h0:ke a=0
    ·rw[if_pos (decide_eq_true h0),if_pos h0];rfl
    ·rw[if_neg (by simpa using h0),if_neg h0];have hfin:=zR neg _ _ h0 (pW d1 (by omega)) (pW d2 (by omega));exact hfin
theorem Dy(s:List UInt8)(hs:s.length<=9223372036854775807):sQ s=some (rp (wu s).1,(wu s).2):=by
 unfold sQ wu;by_cases h:1000<s.length
 ·rw[if_pos (decide_eq_true (by omega)),if_pos h];rfl
 ·rw[if_neg (by simp;omega),if_neg h,xr s (by omega),Cs];by_cases hm:s.head?=some 45
  ·rw[if_pos hm,if_pos hm];simp only[Option.bind_some];exact vP true (s.drop 1) (by rw[List.length_drop];omega)
  ·rw[if_neg hm,if_neg hm];simp only[Option.bind_some];exact vP false s (by omega)
def sF(s:List UInt8):Option (Rat×Int):=bO (s.length<=9223372036854775807) (some (wu s))
theorem w7{a1:List UInt8}{r2:Rat}{r3:Int}(h:sF a1=some (r2,r3)):aW PP 23 [] [cf a1] [] (D.gV [qD r2,D.int .i64 r3]):=by
 obtain⟨h0,h⟩:=ax h;have e:=Dy a1 h0;injection h with h;rw[h]at e;exact E1 e
end Go.Am
namespace Go.Am
open Go.RowKit
end Go.Am
namespace Go.Am
open Go.RowKit
set_option maxRecDepth 100000
noncomputable section
def od(a1:Rat)(a2:Rat)(a3:Rat):Option Rat:=(kH a2 a1).bind fun v4=>(AD v4).bind fun v6=>(kH a3 a1).bind fun v8=>(AD v8).bind fun v10=>(kK v6 v10).bind fun v12=>((if(v12==0)=true then(uD a2).bind fun v17=>(uD a3).bind fun v19=>(kK v17 v19).bind fun v21=>some (v21)else some (v12))).bind fun v23=>((if(decide (v23<0))=true then some (Ex.ret a2)else(if(v23==0)=true then(kK a2 a3).bind fun v28=>(if(decide (v28<0))=true then some (Ex.ret a2)else some (Ex.cp ()))else some (Ex.cp ())))).bind fun o24=>(match o24 with|Ex.cp ()=>some a3|Ex.ret r31=>some r31)
theorem Co{a1:Rat}{a2:Rat}{a3:Rat}{r32:Rat}(h:od a1 a2 a3=some r32):aW PP 165 [] [qD a1,qD a2,qD a3] [] (qD r32):=by
 unfold od at h;refine .of Go.Proofs.Tryz.func165 rfl (by kernel_rfl) rfl rfl rfl rfl rfl rfl (fun A w0 L b=>?_);show Ok PP _ [(0,qD a1),(1,qD a2),(2,qD a3)] [] _ _;refine .al (.j8 rfl rfl<|.j8 rfl rfl<|.j8 rfl rfl<|.fW (qC (0)) az ⟨k8,k_,kZ,trivial⟩ rfl<|.nil) rfl ?_;obtain⟨v4,e5,h⟩:=bind_some h;obtain⟨v6,e7,h⟩:=bind_some h;obtain⟨v8,e9,h⟩:=bind_some h;obtain⟨v10,e11,h⟩:=bind_some h;obtain⟨v12,e13,h⟩:=bind_some h;refine .dh cn (.cb (qC (a2)) rfl rfl aa rfl rfl<|.cb (qC (a1)) rfl rfl aa rfl rfl<|.ah (tK e5) ⟨rfl,rfl,trivial⟩ trivial trivial<|.ah (FX e7) ⟨rfl,trivial⟩ trivial trivial<|.cb (qC (a3)) rfl rfl aa rfl rfl<|.cb (qC (a1)) rfl rfl aa rfl rfl<|.ah (tK e9) ⟨rfl,rfl,trivial⟩ trivial trivial<|.ah (FX e11) ⟨rfl,trivial⟩ trivial trivial<|.ah (nA e13) ⟨rfl,rfl,trivial⟩ trivial trivial<|.ao rfl<|.nil) rfl (by kernel_rfl) ?_;obtain⟨v23,hp15,h⟩:=bind_some h;refine .cz (fun i=>v23=i) (fun(i:Int)=>[(4,D.ref 4 0),(5,D.ref 5 0),(6,D.ref 6 0),(7,D.int .i64 i)]) (fun(i:Int)=>[(4,Hp.box 28 (qC (a2))),(5,Hp.box 28 (qC (a3))),(6,Hp.box 28 (qC (0)))]) ?_ ?_
 ·have ho1:=h;have h:=hp15;refine .al (.mv rfl<|.cm rfl rfl rfl<|.nil) rfl ?_;by_cases c16:(v12==0)=true
  ·replace h:=ab c16 h;refine .cq rfl c16 ?_;obtain⟨v17,e18,h⟩:=bind_some h;obtain⟨v19,e20,h⟩:=bind_some h;obtain⟨v21,e22,h⟩:=bind_some h;refine .de cn (.cb (qC (a2)) rfl rfl aa rfl rfl<|.ah (DU e18) ⟨rfl,trivial⟩ trivial trivial<|.cb (qC (a3)) rfl rfl aa rfl rfl<|.ah (DU e20) ⟨rfl,trivial⟩ trivial trivial<|.ah (nA e22) ⟨rfl,rfl,trivial⟩ trivial trivial<|.ao rfl<|.nil) rfl (by kernel_rfl) (fun _ _ hs=>⟨v21,(sj h),hs.sub (.of rfl) (.of rfl) rfl rfl⟩)
  ·replace h:=ae c16 h;refine .cA rfl c16 ?_;refine .skip (fun _ _ hs=>⟨v12,(sj h),hs.sub (.of rfl) (.of rfl) rfl rfl⟩)
 ·rintro _ rfl
  try dsimp only
  obtain⟨o24,hp25,h⟩:=bind_some h;refine .cz (fun i=>o24=Ex.cp i) (fun(i:Unit)=>[(5,D.ref 5 0),(6,D.ref 6 0)]) (fun(i:Unit)=>[(5,Hp.box 28 (qC (a3))),(6,Hp.box 28 (qC (0)))]) ?_ ?_
  ·have ho1:=h;have h:=hp25;by_cases c26:(decide (v23<0))=true
   ·replace h:=ab c26 h;refine .al (.mv rfl<|.cm rfl rfl rfl<|.mv rfl<|.gk c26<|.gk c26<|.gk c26<|.gu<|.gu<|.gu<|.gu<|.gk c26<|.bm rfl c26 rfl<|.nil) rfl ?_;refine .cq rfl rfl ?_;refine .al (.cb (qC (a2)) rfl rfl aa rfl rfl<|.cH (qC (a2)) rfl rfl rfl aa rfl rfl rfl<|.nil) rfl ?_;cases h;have h:=ho1;cases h;refine .aN (fun _ _ hb=>hb) rfl (.cons (.agg rfl rfl aa rfl) .nil) (.refl _) trivial trivial
   ·replace h:=ae c26 h;by_cases c27:(v23==0)=true
    ·replace h:=ab c27 h;obtain⟨v28,e29,h⟩:=bind_some h;refine .al (.mv rfl<|.cm rfl rfl rfl<|.mv rfl<|.gz c26<|.mv rfl<|.gz c26<|.cm rfl rfl rfl<|.gz c26<|.mv rfl<|.gy c27<|.cb (qC (a2)) rfl rfl aa rfl rfl<|.gy c27<|.cb (qC (a3)) rfl rfl aa rfl rfl<|.gy c27<|.ah (nA e29) ⟨rfl,rfl,trivial⟩ trivial trivial<|.gy c27<|.cm rfl rfl rfl<|.gz c26<|.bm rfl c27 rfl<|.bh rfl c26 rfl<|.nil) rfl ?_;by_cases c30:(decide (v28<0))=true
     ·replace h:=ab c30 h;refine .cq rfl c30 ?_;refine .al (.cb (qC (a2)) rfl rfl aa rfl rfl<|.cH (qC (a2)) rfl rfl rfl aa rfl rfl rfl<|.nil) rfl ?_;cases h;have h:=ho1;cases h;refine .aN (fun _ _ hb=>hb) rfl (.cons (.agg rfl rfl aa rfl) .nil) (.refl _) trivial trivial
     ·replace h:=ae c30 h;refine .cA rfl c30 ?_;refine .skip (fun _ _ hs=>⟨(),(sj h),hs.sub (.of rfl) (.of rfl) rfl rfl⟩)
    ·replace h:=ae c27 h;refine .al (.mv rfl<|.cm rfl rfl rfl<|.mv rfl<|.gz c26<|.mv rfl<|.gz c26<|.cm rfl rfl rfl<|.gz c26<|.mv rfl<|.gm c27<|.gm c27<|.gm c27<|.gm c27<|.gz c26<|.bh rfl c27 rfl<|.bh rfl c26 rfl<|.nil) rfl ?_;refine .cA rfl (by decide) ?_;refine .skip (fun _ _ hs=>⟨(),(sj h),hs.sub (.of rfl) (.of rfl) rfl rfl⟩)
  ·rintro⟨⟩ rfl
   try dsimp only
   refine .al (.cb (qC (a3)) rfl rfl aa rfl rfl<|.cH (qC (a3)) rfl rfl rfl aa rfl rfl rfl<|.nil) rfl ?_;cases h;refine .aN (fun _ _ hb=>hb) rfl (.cons (.agg rfl rfl aa rfl) .nil) (.refl _) trivial trivial
end
end Go.Am
namespace Go.Am
abbrev FR(l:Nat):Fence:=Fence.wide.inRound l
theorem Ey(P:Program)(l:Nat)(m:Machine):m.fenced P (FR l):=by
 have:=fenced_wide P m;exact this
theorem ud{P:Program}{l:Nat}{m m':Machine}:StepsIn (Machine.fenced P (FR l)) P m m'↔Steps P m m':=
 ⟨StepsIn.steps,fun h=>(StepsIn.of_steps h).mono fun m _=>Ey P l m⟩
theorem DD{P:Program}{l:Nat}{m m':Machine}{e:Ending}:ComesIn (Machine.fenced P (FR l)) P m m' e↔Comes P m m' e:=by
 cases e with
 |returned v=>exact ud
 |panicked chain=>exact ud
 |outgrown=>exact Iff.rfl
theorem CN{l n:Nat}{P:Program}{f:FuncId}{args:Array Value}{w:World}{R:Ending->World->Prop}(h:Calls P f args w R):CallsIn (FR l) n P f args w R:=
 ⟨trivial,fun cs _=>let⟨e,w',fr,r,s,x⟩:=h cs;⟨e,w',fr,r,DD.2 s,x⟩⟩
theorem Em{l n:Nat}{P:Program}{row:String}{args:Array Value}{w:World}{R:Value->World->Prop}(h:Rows P row args w R):RowsIn (FR l) n P row args w R:=
 fun c cs _=>let⟨v,w',r,s⟩:=h c cs;⟨v,w',r,ud.2 s⟩
theorem ER{P:Program}{l n:Nat}{o:Oper}{a:Act}{next next':Act->World->Prop}{Q:Exit->Act->World->Prop}(hn:∀a w,next a w->next' a w):∀{r:Result Next},o.upon P a next Q r->o.uponIn (FR l) n P a next' Q r
 |.ok (.value v) w',h=>hn _ _ h
 |.ok .skip w',h=>hn _ _ h
 |.ok (.defer d) w',h=>hn _ _ h
 |.ok (.enter f args) w',h=>⟨fun hd=>(by simp[FR,Fence.wide]at hd),CN (Calls.mono h fun e w'' hr=>by
   cases e with
   |returned v=>exact hn _ _ hr
   |panicked chain=>exact hr
   |outgrown=>exact hr)⟩
 |.ok (.row row args) w',h=>⟨fun hd=>(by simp[FR,Fence.wide]at hd),Em (Rows.mono h fun v w'' hr=>hn _ _ hr)⟩
 |.halt (.panic v) w',h=>h
 |.ok (.round ..) _,h=>h.elim
theorem ug{P:Program}{l n:Nat}{ops:Array Oper}{Q:Exit->Act->World->Prop}(hQ:¬LetsOut Q)(hd:∀(i:Nat) (o:Oper),ops[i]?=some o->∀c,o.op≠.defer c):∀(is:List Nat) (a:Act) (w:World),wpOps P ops Q is a w->wpOpsIn (FR l) n P ops Q is a w
 |[],a,w,h=>h
 |i::rest,a,w,h=>by
  unfold wpOps at h;unfold wpOpsIn;cases ho:ops[i]?with
  |none=>rw[ho]at h;exact ug hQ hd rest a w h
  |some o=>
   rw[ho]at h;simp only at h|-
   split
   ·rename_i hw;rw[if_pos hw]at h;rcases h with h|h
    ·refine⟨fun _ _=>trivial,?_⟩;rw[Oper.semAt_eq _ _ _ (hd i o ho)];exact ER (fun a w hk=>ug hQ hd rest a w hk) h
    ·exact absurd h.2 hQ
   ·rename_i hw;rw[if_neg hw]at h;exact⟨fun _ _=>trivial,ug hQ hd rest _ w h⟩
def iU(l:List Oper):Bool:=l.all fun o=>match o.op with|.defer _=>false|_=>true
theorem n9{l:List Oper}(h:iU l=true)(i:Nat)(o:Oper)(ho:l.toArray[i]?=some o):∀c,o.op≠.defer c:=by
 intro c hc;have hm:o∈l:=by rw[List.getElem?_toArray]at ho;exact List.mem_of_getElem? ho
 have:=List.all_eq_true.1 h o hm;rw[hc]at this;cases this
def lS(P:Program)(c:Ctx)(T:List (Nat×D))(H:List (Nat×Hp))(x:Code)(Q:Exit->Act->World->Prop):Prop:=
 ∀l n a w,Sat c (aM T) (af H) a w->x.wpIn (FR l) n P Q a w
section
variable {P:Program} {c:Ctx} {T T':List (Nat×D)} {H H':List (Nat×Hp)} {Q:Exit->Act->World->Prop} {x y:Code} {id:Nat} {sps:List Spec}
theorem lS.region{l:List Oper}(hL:¬LetsOut Q)(hn:iU l=true)(h:ai P l.toArray c l T H sps T' H')(hd:fb c.n l=true)(hQ:∀a w,Sat c (aM T') (af H') a w->Q .normal a w):lS P c T H (.region id l.toArray false) Q:=by
 intro k n a w hs;refine wpIn_region (ug hL (n9 hn) _ a w ?_);have h1:=h.wp hd hQ a w hs;have h2:=wpOps_eq_wpList (P:=P) (ops:=l.toArray) (Q:=Q) l 0 (by simp);rw[List.range_eq_range',show l.toArray.size=l.length from by simp,h2];exact h1
theorem lS.de{l:List Oper}(hL:¬LetsOut Q)(hn:iU l=true)(hm:P.follows .mixedOrders=true)(h:ai P l.toArray c l T H sps T' H')(hd:fb c.n l=true)(hord:nz [] [] 0 (l.zip sps)=true)(hQ:∀a w,Sat c (aM T') (af H') a w->Q .normal a w):lS P c T H (.region id l.toArray true) Q:=by
 intro k n a w hs;refine wpIn_region_draw fun t=>ug hL (n9 hn) _ a _ ?_;simp only[Region.schedule,hm,Bool.true_or,if_true];exact wpAny_sound l.toArray.size t _ a _ (h.tw hd hord hQ a w hs)
theorem v_{K:Act->World->Prop}(h:¬LetsOut Q):¬LetsOut (Exit.then K Q):=h
theorem lS.seq{K:Act->World->Prop}(h:lS P c T H x (Exit.then K Q))(hy:∀l n a w,K a w->y.wpIn (FR l) n P Q a w):lS P c T H (.seq x y) Q:=
 fun l n a w hs=>wpIn_seq (wpIn_mono (h l n a w hs) (fun e a' w' q=>by cases e<;>first|exact q|exact hy _ _ _ _ q))
theorem lS.dh{l:List Oper}(hL:¬LetsOut Q)(hn:iU l=true)(hm:P.follows .mixedOrders=true)(h:ai P l.toArray c l T H sps T' H')(hd:fb c.n l=true)(hord:nz [] [] 0 (l.zip sps)=true)(hy:lS P c T' H' y Q):lS P c T H (.seq (.region id l.toArray true) y) Q:=
 .seq (K:=fun a w=>Sat c (aM T') (af H') a w) (lS.de (v_ hL) hn hm h hd hord (fun _ _ hs=>hs)) (fun l n a w hs=>hy l n a w hs)
theorem lS.block(h:lS P c T H x (Exit.inBlock id Q)):lS P c T H (.block id x) Q:=fun l n a w hs=>wpIn_block (h l n a w hs)
theorem lS.exit(h:∀a w,Sat c (aM T) (af H) a w->Q (.exit id) a w):lS P c T H (.exit id) Q:=fun _ _ a w hs=>wpIn_exit (h a w hs)
theorem lS.skip(h:∀a w,Sat c (aM T) (af H) a w->Q .normal a w):lS P c T H .skip Q:=fun _ _ a w hs=>wpIn_skip (h a w hs)
theorem lS.cT{o:Operand}(h:ev T o=some (.bool true))(k:lS P c T H x Q):lS P c T H (.cond o x y) Q:=by
 intro l n a w hs;obtain⟨ε,φ,hs'⟩:=hs;exact wpIn_cond_true (hs'.ev (aw h).1 (aw h).2).1 (k l n a w ⟨ε,φ,hs'⟩)
theorem lS.cF{o:Operand}(h:ev T o=some (.bool false))(k:lS P c T H y Q):lS P c T H (.cond o x y) Q:=by
 intro l n a w hs;obtain⟨ε,φ,hs'⟩:=hs;exact wpIn_cond_false (hs'.ev (aw h).1 (aw h).2).1 (k l n a w ⟨ε,φ,hs'⟩)
theorem lS.sq(h:lS P c T H x (Exit.then (fun a w=>∀l n,y.wpIn (FR l) n P Q a w) Q)):lS P c T H (.seq x y) Q:=.seq h (fun l n _ _ k=>k l n)
end
end Go.Am
namespace Go.Am
open Go.RowKit
def Hp.obj(o:Obj):Hp where
 p:=fun _ w _ b F=>F=only (j3 b)/\w.heap[j3 b]?=some o
 nm:=[]
 mono:=fun⟨e,h⟩ _ _ hF=>⟨e,(hF _ (by rw[e];rfl)).trans h⟩
def Hp.caller(T:List (Nat×D))(tm:Array Value)(H:List (Nat×Hp)):Hp where
 p:=fun _ w S _ F=>∃(ε:Env) (φ:Nat->ck),(∀t d,aM T t=some d->d.p ε w S (tm.getD t undef))/\(∀r h,af H r=some h->h.p ε w S (ε r) (φ r))/\
  (∀r r',af H r≠none->af H r'≠none->r≠r'->∀k,φ r k->¬φ r' k)/\(∀r,af H r≠none->∀k,φ r k->F k)/\(∀k,F k->k<w.heap.size/\∃r,af H r≠none/\φ r k)
 nm:=[]
 mono:=by
  rintro ε ε' w w' S S' b F ⟨ε1,φ1,h1,h2,h3,h4,h5⟩ _ hS hF;refine⟨ε1,φ1,fun t d ht=>d.mono (h1 t d ht) (fun _ _=>rfl) hS,fun r h hr=>h.mono (h2 r h hr) (fun _ _=>rfl) hS (fun k hk=>hF k (h4 r (by rw[hr];simp) k hk)),h3,h4,fun k hk=>⟨?_,(h5 k hk).2⟩⟩;have h6:=(h5 k hk).1;have h7:=hF k hk;rw[Array.getElem?_eq_getElem h6]at h7;exact(Array.getElem?_eq_some_iff.1 h7).1
def ptrTo(l:Nat):Value:=.pointer (some ⟨l,0,none⟩)
section
variable {P:Program}
theorem uC{b:Env}{r:Nat}:∀{l:List Nat},r∈l->aM (pins b l) (1000000+r)=some (.pinned r (b r))
 |[],h=>by cases h
 |r0::l,h=>by
  simp only[pins,aM];cases hb:Nat.beq (1000000+r) (1000000+r0)with
  |true=>
   have:r=r0:=by have:=Nat.eq_of_beq_eq_true hb;omega
   subst this;rfl
  |false=>
   rcases List.mem_cons.1 h with rfl|h
   ·simp at hb
   ·exact uC h
theorem y6{T:List (Nat×D)}{tm:Array Value}{H:List (Nat×Hp)}{A F:ck}{w:World}{b v:Value}{d:D}{p:Nat}{ε0':Env}(h:(Hp.caller T tm H).p ε0' w A b F)(hA:∀k,F k->¬A k)
  (hT:cE H (pN T)=true)(hH:cE H (j4 H)=true)(hd:d.nm=[])(hv:d.p ε0' w A v)(hp:p<tm.size):
  ∃β:Env,Sat ⟨A,w.heap.size,w,tm.size,F⟩ (aM ((p,d)::(T++pins β (names H)))) (af H) {tmps:=tm.setIfInBounds p v,defers:=[]} w/\
   (∀t d,aM T t=some d->d.p β w A (tm.getD t undef)):=by
 obtain⟨ε,φ,h1,h2,h3,h4,h5⟩:=h;have hreg:∀k,A k->k<w.heap.size->al ⟨A,w.heap.size,w,tm.size,F⟩ (af H) φ k/\w.heap[k]?=w.heap[k]?:=fun k hk _=>⟨⟨.inl hk,fun r hr hf=>hA k (h4 r hr k hf) hk⟩,rfl⟩;refine⟨ε,⟨ε,φ,?_⟩,h1⟩;have hs:cd ⟨A,w.heap.size,w,tm.size,F⟩ (aM (T++pins ε (names H))) (af H) {tmps:=tm,defers:=[]} w ε φ:=by
  constructor
  ·intro t d' ht;rcases iG ht with ht|ht
   ·exact d'.mono (h1 t d' ht) (fun _ _=>rfl) hreg
   ·obtain⟨r,_,_,rfl⟩:=jS ht
    rfl
  ·intro t d' ht r hr;rcases iG ht with ht|ht
   ·exact dc hT r (l3 ht r hr)
   ·obtain⟨r',hr',_,rfl⟩:=jS ht;have:r=r':=by simpa [D.pinned]using hr
    subst this;exact bU.2 hr'
  ·exact fun r y hy=>y.mono (h2 r y hy) (fun _ _=>rfl) hreg (fun _ _=>rfl)
  ·exact pM hH
  ·exact fun r hr k hk=>⟨.inr (h4 r hr k hk),(h5 k (h4 r hr k hk)).1⟩
  ·exact h3
  ·exact .of (Below.refl _ _)
  ·rfl
  ·rfl
  ·rfl
 have:=hs.put (dst:=some p) (d:=d) (v:=v) (fun t ht=>by injection ht with ht;subst ht;exact hp) (d.mono hv (fun r hr=>by rw[hd]at hr;cases hr) hreg) (fun r hr=>by rw[hd]at hr;cases hr);rw[iH]at this;exact this
theorem yy{T T':List (Nat×D)}{tm:Array Value}{H H':List (Nat×Hp)}{A F:ck}{w w':World}{β:Env}{a:Act}{n:Nat}(hT:cE H (pN T)=true)(h0:∀t d,aM T t=some d->d.p β w A (tm.getD t undef))(hA:∀k,F k->¬A k)
  (hpin:iO T' (pins β (names H)))(hs:Sat ⟨A,w.heap.size,w,n,F⟩ (aM T') (af H') a w'):
  ∃F',(Hp.caller T tm H').p ε0 w' (fun k=>(A k\/w.heap.size<=k\/F k)/\¬F' k) undef F'/\(∀k,F' k->(w.heap.size<=k\/F k)/\k<w'.heap.size)/\nH w.heap.size F w w':=by
 obtain⟨ε,φ,hs⟩:=hs;have hpins:∀r∈names H,ε r=β r:=by
  intro r hr;obtain⟨d,hd,hle⟩:=nS hpin _ _ (uC hr);exact hle.1 _ _ _ _ (hs.t _ _ hd)
 have hlo:∀k,(∃r,af H' r≠none/\φ r k)->(w.heap.size<=k\/F k)/\k<w'.heap.size:=fun k ⟨r,hr,hf⟩=>hs.lo r hr k hf;have hreg:∀k,al ⟨A,w.heap.size,w,n,F⟩ (af H') φ k->k<w'.heap.size->((A k\/w.heap.size<=k\/F k)/\¬(∃r,af H' r≠none/\φ r k))/\w'.heap[k]?=w'.heap[k]?:=fun k hk _=>⟨⟨hk.1,fun⟨r,hr,hf⟩=>hk.2 r hr hf⟩,rfl⟩;refine⟨fun k=>∃r,af H' r≠none/\φ r k,⟨ε,φ,?_,?_,hs.dj,fun r hr k hk=>⟨r,hr,hk⟩,fun k hk=>⟨(hlo k hk).2,hk⟩⟩,hlo,hs.pP⟩
 ·intro t d ht;refine d.mono (h0 t d ht) (fun r hr=>hpins r ?_) (fun k hk hlt=>⟨⟨.inl hk,fun hf=>?_⟩,hs.pP.block k hlt (fun hF=>hA k hF hk)⟩)
  ·exact bU.1 (dc hT r (l3 ht r hr))
  ·rcases(hlo k hf).1 with h|h
   ·omega
   ·exact hA k h hk
 ·intro r h hr;exact h.mono (hs.h r h hr) (fun _ _=>rfl) hreg (fun _ _=>rfl)
def oW{σ ρ:Type}:St σ ρ->Bool
 |.next _=>true
 |.done _=>false
def YR{σ ρ:Type}(T:List (Nat×D))(tm:Array Value)(C:St σ ρ->List (Nat×Hp))(st:St σ ρ)(A F:ck)(w:World):Ending->World->Prop:=
 fun e w'=>∃F':ck,e=.returned (.bool (oW st))/\(Hp.caller T tm (C st)).p ε0 w' (fun k=>(A k\/w.heap.size<=k\/F k)/\¬F' k) undef F'/\(∀k,F' k->(w.heap.size<=k\/F k)/\k<w'.heap.size)/\nH w.heap.size F w w'
def qQ(P:Program)(l:Nat){σ ρ α:Type}(T:List (Nat×D))(tm:Array Value)(C:St σ ρ->List (Nat×Hp))(dx:α->D)(step:σ->α->Option (St σ ρ)):Prop:=
 ∀s x st,step s x=some st->∀(A F:ck) (w:World) (v:Value),(∀k,F k->¬A k)->(Hp.caller T tm (C (.next s))).p ε0 w A undef F->(dx x).p ε0 w A v->
  ∃f tmps assign body,(Instr.yield l #[v]).run P w=.ok (.round l f tmps assign body) w/\∀n,RoundIn Fence.wide n P l f tmps assign body w (YR T tm C st A F w)
def dD(fn:FuncId)(tm:Array Value)(p:Nat)(assign body:Code)(dd:Nat)(st:LoopState)(pe:Option Code):Go.Loop:={state:=st,pending:=pe,fn,tmps:=tm,params:=#[p],assign,body,defers:=dd}
def n_{σ ρ:Type}(j:Nat):St σ ρ->Option Code
 |.next _=>none
 |.done _=>some (.exit j)
def stat{σ ρ:Type}:St σ ρ->LoopState
 |.next _=>.ready
 |.done _=>.done
def bQ{σ ρ:Type}(rd dd:Nat)(o:Obj)(C:St σ ρ->List (Nat×Hp))(st:St σ ρ):List (Nat×Hp):=(rd,.obj o)::(dd,.obj (.deferred (some [])))::C st
def DB{σ ρ:Type}(c:Ctx)(j rd dd:Nat)(o:Obj)(C:St σ ρ->List (Nat×Hp))(β:Env)(bD:List Nat)(st:St σ ρ):Exit->Act->World->Prop
 |.normal,a,w=>(∃s,st=.next s)/\∃T',iO T' (pins β bD)/\Sat c (aM T') (af (bQ rd dd o C st)) a w
 |.exit id,a,w=>id=j/\(∃r,st=.done r)/\∃T',iO T' (pins β bD)/\Sat c (aM T') (af (bQ rd dd o C st)) a w
 |_,_,_=>False
theorem sI{c:Ctx}{T:List (Nat×D)}{H:List (Nat×Hp)}{a:Act}{w:World}{rd l:Nat}{o:Obj}(o':Obj)(hs:Sat c (aM T) (af ((rd,.obj o)::H)) a w)(hp:∀ε φ,cd c (aM T) (af ((rd,.obj o)::H)) a w ε φ->ε rd=ptrTo l):
  w.heap[l]?=some o/\Sat c (aM T) (af ((rd,.obj o')::H)) a (w.putObj l o'):=by
 obtain⟨ε,φ,hs⟩:=hs;have h1:af ((rd,Hp.obj o)::H) rd=some (.obj o):=by simp[af]
 have hp:=hp ε φ hs;obtain⟨e1,e2⟩:=hs.h rd _ h1;have hb:j3 (ε rd)=l:=by rw[hp];rfl
 rw[hb]at e1 e2;have hlt:l<w.heap.size:=(Array.getElem?_eq_some_iff.1 e2).1;refine⟨e2,ε,φ,?_⟩;have h2:=hs.tf (w':=w.putObj l o') (y:=.obj o') h1 (by simp) rfl rfl rfl (fun k hk=>World.putObj_heap_other (fun e=>hk (by rw[e1,e];rfl))) ⟨by rw[hb];exact e1,by rw[hb];exact World.putObj_heap_same hlt⟩ (fun r hr=>by cases hr);have h3:bf (af ((rd,Hp.obj o)::H)) [(rd,.obj o')]=af ((rd,.obj o')::H):=by
  funext r
  simp only[bf,af];cases Nat.beq r rd<;>rfl
 rw[h3]at h2;exact h2
theorem Al{c:Ctx}{T:List (Nat×D)}{H:Nat->Option Hp}{a:Act}{w:World}{β:Env}{bD:List Nat}{r:Nat}(hsub:iO T (pins β bD))(hr:r∈bD){v:Value}(hv:β r=v):∀ε φ,cd c (aM T) H a w ε φ->ε r=v:=by
 intro ε φ hs;obtain⟨d,hd,hle⟩:=nS hsub _ _ (uC hr);exact(show ε r=β r from hle.1 _ _ _ _ (hs.t _ _ hd)).trans hv
theorem DT{σ ρ α:Type}{l rd dd j p:Nat}{fn:FuncId}{tm:Array Value}{assign body:Code}{D0:Nat}{T:List (Nat×D)}{C:St σ ρ->List (Nat×Hp)}{dx:α->D}{step:σ->α->Option (St σ ρ)}{nmsC:List Nat}
  (hn:∀st,names (C st)=nmsC)(hrd:Nat.beq rd dd=false)(hTn:∀(o:Obj) st,cE (bQ rd dd o C st) (pN T)=true)(hHn:∀(o:Obj) st,cE (bQ rd dd o C st) (j4 (C st))=true)(hdx:∀x,(dx x).nm=[])(hp:p<tm.size)
  (pt:Nat)(hpt:aM T pt=some (.pinned rd (ptrTo l)))
  (Hx:α->List (Nat×Hp))(T1:(β:Env)->α->List (Nat×D))(hT1:∀β x,iO (T1 β x) (pins β (rd::dd::nmsC)))
  (ha:∀s x st,step s x=some st->∀A w0 L β,lS P ⟨A,w0.heap.size,w0,tm.size,L⟩ ((p,dx x)::(T++pins β (rd::dd::nmsC))) (bQ rd dd (.loop (dD fn tm p assign body D0 .ready none)) C (.next s)) assign
   (Exit.then (fun a w=>Sat ⟨A,w0.heap.size,w0,tm.size,L⟩ (aM (T1 β x)) (af (bQ rd dd (.loop (dD fn tm p assign body D0 .ready none)) C (.next s)++Hx x)) a w) (fun _ _ _=>False)))
  (hb:∀s x st,step s x=some st->∀A w0 L β,lS P ⟨A,w0.heap.size,w0,tm.size,L⟩ (T1 β x) (bQ rd dd (.loop (dD fn tm p assign body D0 .busy none)) C (.next s)++Hx x) body (DB ⟨A,w0.heap.size,w0,tm.size,L⟩ j rd dd (.loop (dD fn tm p assign body D0 .busy none)) C β (rd::dd::nmsC) st)):
  qQ P l T tm (fun st=>bQ rd dd (.loop (dD fn tm p assign body D0 (stat st) (n_ j st))) C st) dx step:=by
 intro s x st hst A F w v hA hcal hv;have hnames:∀(o:Obj) st,names (bQ rd dd o C st)=rd::dd::nmsC:=fun o st=>by simp only[bQ,names,hn]
 have hHall:∀(o:Obj) st,cE (bQ rd dd o C st) (j4 (bQ rd dd o C st))=true:=fun o st=>by
  show cE (bQ rd dd o C st) (j4 (C st))=true;exact hHn o st
 obtain⟨β,hsat,h0⟩:=y6 (d:=dx x) (v:=v) (p:=p) hcal hA (hTn _ _) (hHall _ _) (hdx x) hv hp;rw[hnames]at hsat
 -- the record
 have hl:w.heap[l]?=some (.loop (dD fn tm p assign body D0 .ready none)):=by
  obtain⟨ε,φ,h1,h2,_⟩:=hcal;have e1:ε rd=ptrTo l:=h1 pt _ hpt;have e2:=(h2 rd (.obj (.loop (dD fn tm p assign body D0 .ready none))) (by simp[bQ,af,stat,n_])).2;rw[e1]at e2;exact e2
 refine⟨fn,_,assign,body,?_,fun n=>roundIn_of_wpIn (tmps:=tm.setIfInBounds p v) trivial (wpIn_mono (ha s x st hst A w F β l n _ _ hsat) ?_)⟩
 ·have:=run_yield (P:=P) (args:=#[v]) hl rfl;rw[this];simp[dD]
 intro e a1 w1 hq
 cases e with
 |normal=>
  have hβ:β rd=ptrTo l:=h0 pt _ hpt;have hq':Sat ⟨A,w.heap.size,w,tm.size,F⟩ (aM (T1 β x)) (af (bQ rd dd (.loop (dD fn tm p assign body D0 .ready none)) C (.next s)++Hx x)) a1 w1:=hq;obtain⟨hl1,hS1⟩:=sI (.loop (dD fn tm p assign body D0 .busy none)) hq' (Al (hT1 β x) (by simp) hβ);refine⟨_,run_beginRound hl1 rfl,wpIn_mono (hb s x st hst A w F β l n _ _ hS1) ?_⟩;have fin:∀(a2:Act) (w2:World),(∃T',iO T' (pins β (rd::dd::nmsC))/\Sat ⟨A,w.heap.size,w,tm.size,F⟩ (aM T') (af (bQ rd dd (.loop (dD fn tm p assign body D0 .busy none)) C st)) a2 w2)->
    w2.heap[l]?=some (.loop (dD fn tm p assign body D0 .busy none))/\∃F':ck,(Hp.caller T tm (bQ rd dd (.loop (dD fn tm p assign body D0 (stat st) (n_ j st))) C st)).p ε0 (w2.putObj l (.loop (dD fn tm p assign body D0 (stat st) (n_ j st)))) (fun k=>(A k\/w.heap.size<=k\/F k)/\¬F' k) undef F'/\
    (∀k,F' k->(w.heap.size<=k\/F k)/\k<(w2.putObj l (.loop (dD fn tm p assign body D0 (stat st) (n_ j st)))).heap.size)/\nH w.heap.size F w (w2.putObj l (.loop (dD fn tm p assign body D0 (stat st) (n_ j st)))):=by
   rintro a2 w2 ⟨T',hsub,hS⟩;obtain⟨hl2,hS2⟩:=sI (.loop (dD fn tm p assign body D0 (stat st) (n_ j st))) hS (Al hsub (by simp) hβ);refine⟨hl2,?_⟩;exact yy (H:=bQ rd dd (.loop (dD fn tm p assign body D0 .ready none)) C (.next s)) (hTn _ _) h0 hA (by rw[hnames];exact hsub) hS2
  intro e2 a2 w2 hq2
  cases e2 with
  |normal=>
   obtain⟨⟨s',rfl⟩,hq2⟩:=hq2;obtain⟨hl2,F',hf⟩:=fin a2 w2 hq2;exact⟨_,_,run_endRound (P:=P) none hl2,F',rfl,hf⟩
  |exit id=>
   obtain⟨rfl,⟨r,rfl⟩,hq2⟩:=hq2;obtain⟨hl2,F',hf⟩:=fin a2 w2 hq2;exact⟨_,_,run_endRound (P:=P) (some (.exit id)) hl2,F',rfl,hf⟩
  |_=>exact hq2.elim
 |_=>exact hq.elim
theorem qB{nc:Nat}{h:Hp}{r:Nat}{h':Hp}(e:af [(nc,h)] r=some h'):r=nc/\h'=h:=by
 simp only[af]at e
 cases hb:Nat.beq r nc with
 |true=>rw[hb]at e;injection e with e;exact⟨Nat.eq_of_beq_eq_true hb,e.symm⟩
 |false=>rw[hb]at e;cases e
theorem jq{nc:Nat}{h:Hp}{r:Nat}(e:af [(nc,h)] r≠none):r=nc:=by
 cases hq:af [(nc,h)] r with
 |none=>exact absurd hq e
 |some h'=>exact(qB hq).1
theorem BD{dst:Option Nat}{ty:TypeId}{pos:String}{aft:Array Edge}{l:Nat}{x y:Operand}{ats:Array TypeId}(a:Act)(w:World){v:Value}(hx:a.eval x=.func (.yield l) #[] #[])(hy:a.eval y=v):
  (execOp a.eval ⟨dst,.call {callee:=.value x,args:=#[y],argTypes:=ats},ty,pos,aft,none⟩).run P w=(Instr.yield l #[v]).run P w:=by
 simp only[execOp,resolve,hx,Deferred.ofValue,Sem.run_bind,Sem.run_pure,Result.andThen_ok,invoke];simp[hy]
theorem CO{σ ρ α:Type}{l:Nat}{T:List (Nat×D)}{tm:Array Value}{C:St σ ρ->List (Nat×Hp)}{dx:α->D}{step:σ->α->Option (St σ ρ)}(hY:qQ P l T tm C dx step){s:σ}{x0:α}{st:St σ ρ}(hst:step s x0=some st)
  {c:Ctx}{T2:List (Nat×D)}{H2:List (Nat×Hp)}{x y:Operand}{nc n:Nat}(hx:ev T2 x=some (.lit (.func (.yield l) #[] #[])))(hy:ev T2 y=some (dx x0))(hdx:(dx x0).nm=[])(hH:af H2 nc=some (.caller T tm (C (.next s))))
  {dst:Option Nat}{ty:TypeId}{pos:String}{aft:Array Edge}{ats:Array TypeId}(hdst:∀t,dst=some t->t<c.n){K:Act->World->Prop}{Q:Exit->Act->World->Prop}
  (hK:∀a' w',Sat c (aM (bg T2 dst (.bool (oW st)))) (af ((nc,.caller T tm (C st))::H2)) a' w'->K a' w'){a:Act}{w:World}(hs:Sat c (aM T2) (af H2) a w):
  Oper.wpIn Fence.wide n P ⟨dst,.call {callee:=.value x,args:=#[y],argTypes:=ats},ty,pos,aft,none⟩ a w K Q:=by
 obtain⟨ε,φ,hs⟩:=hs;have ex:=(hs.ev (aw hx).1 (aw hx).2).1;have ey:=(hs.ev (aw hy).1 (aw hy).2).1;have hcal:=hs.h nc _ hH;have hHn:af H2 nc≠none:=by rw[hH];simp
 obtain⟨f,tmps,assign,body,hrun,hround⟩:=hY s x0 st hst (al c (af H2) φ) (φ nc) w (a.eval y) (fun k hk hr=>hr.2 nc hHn hk) hcal ((dx x0).mono ey (fun r hr=>by rw[hdx]at hr;cases hr) (fun k hk _=>⟨hk,rfl⟩));refine⟨fun _ _=>trivial,?_⟩;rw[Oper.semAt_eq _ _ _ (by intro c hc;cases hc),BD a w ex rfl,hrun];refine⟨fun hd=>by simp[Fence.wide]at hd,(hround (n-1)).mono ?_⟩;rintro e w' ⟨F',rfl,hp,hlo,hbel⟩;have hfn:db φ nc F' nc=F':=aq _ _ _;have hloan:∀k,nW [(nc,Hp.caller T tm (C (.next s)))] φ k↔φ nc k:=fun k=>⟨fun⟨r,hr,hf⟩=>by rw[←jq hr];exact hf,fun hf=>⟨nc,by simp[af],hf⟩⟩;obtain⟨ε1,φ1,hS⟩:=hs.back (T0:=aM T2) (Hi:=[(nc,.caller T tm (C (.next s)))]) (Ho:=[(nc,.caller T tm (C st))]) (d:=.bool (oW st)) (v:=.bool (oW st)) (dst:=dst) (ε':=ε) (φ':=db φ nc F') (n:=0) (w':=w')
  (fun r h hr=>by obtain⟨rfl,rfl⟩:=qB hr;exact hH) (fun r ho hi=>by rw[jq ho]at hi;simp[af]at hi) (fun r h hr r' hr'=>by obtain⟨rfl,rfl⟩:=qB hr;cases hr') (fun r hr=>by cases hr) (fun r hr=>by rw[jq hr];simp[af]) (fun _ _=>rfl)
  ⟨rfl,fun r h hr=>by
   obtain⟨rfl,rfl⟩:=qB hr;rw[hfn];refine(Hp.caller T tm (C st)).mono (ε:=ε0) hp (fun r hr=>by cases hr) (fun k hk _=>⟨⟨?_,fun r' hr'=>?_⟩,rfl⟩) (fun _ _=>rfl)
   ·rcases hk.1 with h|h|h
    ·exact .inl h
    ·exact .inr (.inl h)
    ·exact .inr (.inr ((hloan k).2 h))
   ·rw[jq hr',hfn];exact hk.2,
   fun r hr k hk=>by
   rw[jq hr,hfn]at hk;exact⟨(hlo k hk).1.elim .inl (fun h=>.inr ((hloan k).2 h)),(hlo k hk).2⟩,
   fun r r' hr hr' hne=>absurd ((jq hr).trans (jq hr').symm) hne,
   ⟨hbel.os,hbel.tape,hbel.output,hbel.size,fun k hk hl=>hbel.block k hk (fun hf=>hl ((hloan k).2 hf))⟩⟩ hdst
 rw[iH,bq]at hS;exact hK _ _ ⟨ε1,φ1,hS⟩
def mark(D:Nat):Deferred:={target:=.collected D,args:=#[]}
def mf(rd dd l b:Nat)(Tk:List (Nat×D)):List (Nat×D):=(2000000,.pinned rd (ptrTo l))::(2000001,.pinned dd (ptrTo b))::Tk
def Ac{σ ρ:Type}(j:Nat):St σ ρ->Exit
 |.next _=>.normal
 |.done _=>.exit j
theorem Ok.G7{σ ρ α:Type}{c:Ctx}{T:List (Nat×D)}{H:List (Nat×Hp)}{Q:Exit->Act->World->Prop}{g:Operand}{f:FuncId}{p:Nat}{assign body:Code}{rb tb j rd dd:Nat}{lb lb':List D}{C:St σ ρ->List (Nat×Hp)}{dx:α->D}{step:σ->α->Option (St σ ρ)}{s0:σ}{cH:St σ ρ}(Tk:List (Nat×D))(nmsC:List Nat)
  (hg:ev T g=some (.qU f [] [.ref rb 0]))(hok:oR P f=true)(hrb:af H rb=some (.box tb lb))(hlb:bD lb=[])(hTk:∀t d,aM Tk t=some d->aM T t=some d)(hC:HL (C (.next s0)) H)(hCb:af (C (.next s0)) rb=none)(hrd:af H rd=none)(hdd:af H dd=none)(hne:Nat.beq rd dd=false)
  (hn:∀st,names (C st)=nmsC)(hTn:∀(l b:Nat) (o:Obj) st,cE (bQ rd dd o C st) (pN (mf rd dd l b Tk))=true)(hHn:∀(o:Obj) st,cE (bQ rd dd o C st) (j4 (C st))=true)(hdx:∀x,(dx x).nm=[])(hp:p<c.n)
  (hcall:∀(l b:Nat) (fn:FuncId) (tm:Array Value),qQ P l (mf rd dd l b Tk) tm (fun st=>bQ rd dd (.loop (dD fn tm p assign body b (stat st) (n_ j st))) C st) dx step->
   aW P f [(0,.box tb lb),(1,.caller (mf rd dd l b Tk) tm (bQ rd dd (.loop (dD fn tm p assign body b (stat (.next s0:St σ ρ)) (n_ j (.next s0:St σ ρ)))) C (.next s0)))] [.lit (.func (.yield l) #[] #[]),.ref 0 0]
    [(0,.box tb lb'),(1,.caller (mf rd dd l b Tk) tm (bQ rd dd (.loop (dD fn tm p assign body b (stat cH) (n_ j cH))) C cH))] .any)
  (Hx:α->List (Nat×Hp))(T1:(β:Env)->(l b:Nat)->α->List (Nat×D))(hT1:∀β l b x,iO (T1 β l b x) (pins β (rd::dd::nmsC)))
  (ha:∀(l b:Nat) (o:Obj) s x st,step s x=some st->∀A w0 L β,lS P ⟨A,w0.heap.size,w0,c.n,L⟩ ((p,dx x)::(mf rd dd l b Tk++pins β (rd::dd::nmsC))) (bQ rd dd o C (.next s)) assign
   (Exit.then (fun a w=>Sat ⟨A,w0.heap.size,w0,c.n,L⟩ (aM (T1 β l b x)) (af (bQ rd dd o C (.next s)++Hx x)) a w) (fun _ _ _=>False)))
  (hb:∀(l b:Nat) (o:Obj) s x st,step s x=some st->∀A w0 L β,lS P ⟨A,w0.heap.size,w0,c.n,L⟩ (T1 β l b x) (bQ rd dd o C (.next s)++Hx x) body (DB ⟨A,w0.heap.size,w0,c.n,L⟩ j rd dd o C β (rd::dd::nmsC) st))
  (hQ:∀(l b:Nat) (o:Obj) (a:Act) (w:World),a.defers=[mark b]->Sat c (aM (mf rd dd l b Tk)) (af ((rd,.obj o)::(dd,.obj (.deferred (some [])))::C cH)) {a with defers:=[]} w->Q (Ac j cH) a w):
  Ok P c T H (.rangeFunc g #[p] assign body) Q:=by
 rintro a w ⟨ε,φ,hs⟩;refine(wpIn_wide (n:=0)).1 (wpIn_rangeFunc (fun fn _=>?_));obtain⟨vs,us,eg,hvs,hus⟩:=(hs.ev (aw hg).1 (aw hg).2).1;obtain rfl:vs=[]:=List.eq_nil_of_length_eq_zero (aL hvs)
 match us,hus with
 |[u],hus=>
 have eu:u=.pointer (some ⟨j3 (ε rb),0,none⟩):=hus.1;have hrdd:rd≠dd:=fun e=>by subst e;simp at hne
 -- the two blocks
 have hs1:=hs.lB (r:=dd) (x:=.obj (.deferred (some []))) (b:=ptrTo w.heap.size) (F:=only w.heap.size) (w':=w.alloc (.deferred (some []))) hdd ((Below.refl _ _).alloc (Nat.le_refl _) _) (fun k hk=>by simp only[only]at hk;subst hk;simp) ⟨rfl,ia _ _⟩ (fun r hr=>by cases hr);have hs2:=hs1.lB (r:=rd) (x:=.obj (.loop (dD fn a.tmps p assign body w.heap.size .ready none))) (b:=ptrTo (w.heap.size+1)) (F:=only (w.heap.size+1)) (w':=(w.alloc (.deferred (some []))).alloc (.loop (dD fn a.tmps p assign body w.heap.size .ready none)))
  (by rw[bu,aB _ _ hrdd];exact hrd) ((Below.refl _ _).alloc (Nat.le_refl _) _) (fun k hk=>by simp only[only]at hk;subst hk;simp) ⟨rfl,by have:=ia (w.alloc (.deferred (some []))) (.loop (dD fn a.tmps p assign body w.heap.size .ready none));rw[World.size_alloc]at this;exact this⟩ (fun r hr=>by cases hr)
 have eH:bf (bf (af H) [(dd,.obj (.deferred (some [])))]) [(rd,.obj (.loop (dD fn a.tmps p assign body w.heap.size .ready none)))]=af ((rd,.obj (.loop (dD fn a.tmps p assign body w.heap.size .ready none)))::(dd,.obj (.deferred (some [])))::H):=by
  rw[bq,bq];rfl
 rw[eH]at hs2;generalize hε1:db (db ε dd (ptrTo w.heap.size)) rd (ptrTo (w.heap.size+1))=ε1 at hs2;generalize hφ1:db (db φ dd (only w.heap.size)) rd (only (w.heap.size+1))=φ1 at hs2;generalize hW:(w.alloc (.deferred (some []))).alloc (.loop (dD fn a.tmps p assign body w.heap.size .ready none))=W at hs2;have erd:ε1 rd=ptrTo (w.heap.size+1):=by rw[←hε1,aq]
 have edd:ε1 dd=ptrTo w.heap.size:=by rw[←hε1,aB _ _ (Ne.symm hrdd),aq]
 have hrbd:rb≠dd:=fun e=>by subst e;rw[hrb]at hdd;cases hdd
 have hrbr:rb≠rd:=fun e=>by subst e;rw[hrb]at hrd;cases hrd
 have erb:ε1 rb=ε rb:=by rw[←hε1,aB _ _ hrbr,aB _ _ hrbd]
 obtain⟨HA,hHA⟩:∃HA,HA=(rd,Hp.obj (.loop (dD fn a.tmps p assign body w.heap.size .ready none)))::(dd,Hp.obj (.deferred (some [])))::H:=⟨_,rfl⟩;rw[←hHA]at hs2;obtain⟨H1,hH1⟩:∃H1,H1=bQ rd dd (.loop (dD fn a.tmps p assign body w.heap.size .ready none)) C (.next s0):=⟨_,rfl⟩;have hbeq:∀{x y:Nat},x≠y->Nat.beq x y=false:=fun{x y} h=>by
  cases hq:Nat.beq x y with
  |false=>rfl
  |true=>exact absurd (Nat.eq_of_beq_eq_true hq) h
 -- the caller's blocks are the state's own
 have hin1:∀r h,af H1 r=some h->af HA r=some h:=by
  intro r h hr;rw[hH1]at hr;rw[hHA];simp only[bQ,af]at hr|-
  cases hq:Nat.beq r rd with
  |true=>rw[hq]at hr;exact hr
  |false=>
   rw[hq]at hr
   cases hq2:Nat.beq r dd with
   |true=>rw[hq2]at hr;exact hr
   |false=>rw[hq2]at hr;exact hC r h hr
 have hin1n:∀r,af H1 r≠none->af HA r≠none:=fun r hr=>by
  cases hq:af H1 r with
  |none=>exact absurd hq hr
  |some h=>rw[hin1 r h hq];simp
 have hrb1:af HA rb=some (.box tb lb):=by rw[hHA];simp only[af,hbeq hrbr,hbeq hrbd];exact hrb
 have hrb1n:af HA rb≠none:=by rw[hrb1];simp
 have hrbn1:∀r,af H1 r≠none->rb≠r:=by
  intro r hr e;subst e;rw[hH1]at hr;simp only[bQ,af,hbeq hrbr,hbeq hrbd]at hr;exact hr hCb
 have hTk1:∀t d,aM (mf rd dd (w.heap.size+1) w.heap.size Tk) t=some d->d.p ε1 W (Am.al c (af HA) φ1) (a.tmps.getD t undef):=by
  intro t d ht;simp only[mf,aM]at ht
  cases hq:Nat.beq t 2000000 with
  |true=>rw[hq]at ht;injection ht with ht;subst ht;exact erd
  |false=>
   rw[hq]at ht
   cases hq2:Nat.beq t 2000001 with
   |true=>rw[hq2]at ht;injection ht with ht;subst ht;exact edd
   |false=>rw[hq2]at ht;exact hs2.t t d (hTk t d ht)
 have hsz:a.tmps.size=c.n:=hs.sz;have hY:qQ P (w.heap.size+1) (mf rd dd (w.heap.size+1) w.heap.size Tk) a.tmps (fun st=>bQ rd dd (.loop (dD fn a.tmps p assign body w.heap.size (stat st) (n_ j st))) C st) dx step:=
  DT hn hne (hTn _ _) hHn hdx (by rw[hsz];exact hp) 2000000 rfl Hx (fun β x=>T1 β (w.heap.size+1) w.heap.size x) (fun β x=>hT1 β _ _ x) (fun s x st hst A w0 L β=>by rw[hsz];exact ha _ _ _ s x st hst A w0 L β) (fun s x st hst A w0 L β=>by rw[hsz];exact hb _ _ _ s x st hst A w0 L β)
 have hc:=hcall _ _ fn a.tmps hY;refine⟨w.heap.size+1,[mark w.heap.size],W,{target:=.fn (.func f) #[u],args:=#[.func (.yield (w.heap.size+1)) #[] #[]]},W,f,#[.func (.yield (w.heap.size+1)) #[] #[],u],W,?_,?_,fun _ _=>trivial,?_,fun hd=>by simp[Fence.wide]at hd,callsIn_wide.2 ?_⟩
 ·rw[←hW];exact run_enterLoop_outer _ _ _ _ _
 ·simp only[resolve,eg];simp[go_sem]
 ·have hok':=hok;unfold oR at hok';cases hf:P.funcs[f]?with
  |none=>simp[hf]at hok'
  |some fn'=>
   simp only[hf,Bool.and_eq_true,Bool.not_eq_true']at hok';have hbn:fn'.body.isNone=false:=by cases h:fn'.body<;>simp_all
   simp only[invoke,callFunc,Sem.run_bind,run_program,Result.andThen_ok,hf,hok'.1,Bool.false_eq_true,if_false,hbn];simp
 -- the call
 let ε2:Env:=fun r=>if r=0 then ε1 rb else undef
 let F1:ck:=fun k=>∃r,af H1 r≠none/\φ1 r k
 let φ2:Nat->ck:=fun r=>if r=0 then φ1 rb else F1
 have hget2:∀{x y:Hp} {r:Nat} {h:Hp},af [(0,x),(1,y)] r=some h->(r=0/\h=x)\/(r=1/\h=y):=by
  intro x y r h hr;simp only[af]at hr
  cases hq:Nat.beq r 0 with
  |true=>rw[hq]at hr;injection hr with hr;exact .inl ⟨Nat.eq_of_beq_eq_true hq,hr.symm⟩
  |false=>
   rw[hq]at hr
   cases hq2:Nat.beq r 1 with
   |true=>rw[hq2]at hr;injection hr with hr;exact .inr ⟨Nat.eq_of_beq_eq_true hq2,hr.symm⟩
   |false=>rw[hq2]at hr;cases hr
 have hget2n:∀{x y:Hp} {r:Nat},af [(0,x),(1,y)] r≠none->r=0\/r=1:=by
  intro x y r hr
  cases hq:af [(0,x),(1,y)] r with
  |none=>exact absurd hq hr
  |some h=>exact(hget2 hq).imp (·.1) (·.1)
 refine(hc.calls (Am.al c (af HA) φ1) W ε2 φ2 [.func (.yield (w.heap.size+1)) #[] #[],u] ?_ ?_ ?_ ⟨rfl,?_,trivial⟩).mono ?_
 ·intro r hr k hk;rcases hget2n hr with rfl|rfl
  ·exact⟨fun h=>h.2 rb hrb1n hk,(hs2.lo rb hrb1n k hk).2⟩
  ·obtain⟨r,hr,hf⟩:=hk;exact⟨fun h=>h.2 r (hin1n r hr) hf,(hs2.lo r (hin1n r hr) k hf).2⟩
 ·intro r r' hr hr' hne' k hk hk';rcases hget2n hr with rfl|rfl<;>rcases hget2n hr' with rfl|rfl
  ·exact hne' rfl
  ·obtain⟨r,hr,hf⟩:=hk';exact hs2.dj rb r hrb1n (hin1n r hr) (hrbn1 r hr) k hk hf
  ·obtain⟨r,hr,hf⟩:=hk;exact hs2.dj rb r hrb1n (hin1n r hr) (hrbn1 r hr) k hk' hf
  ·exact hne' rfl
 ·intro r h hr;rcases hget2 hr with⟨rfl,rfl⟩|⟨rfl,rfl⟩
  ·exact(Hp.box tb lb).mono (hs2.h rb _ hrb1) (fun r hr=>by rw[show(Hp.box tb lb).nm=bD lb from rfl,hlb]at hr;cases hr) (fun _ hk _=>⟨hk,rfl⟩) (fun _ _=>rfl)
  ·refine⟨ε1,φ1,hTk1,?_,?_,fun r hr k hk=>?_,fun k ⟨r,hr,hf⟩=>?_⟩
   ·exact fun r h hr=>hs2.h r h (hin1 r h (by rw[hH1];exact hr))
   ·exact fun r r' hr hr'=>hs2.dj r r' (hin1n r (by rw[hH1];exact hr)) (hin1n r' (by rw[hH1];exact hr'))
   ·exact⟨r,by rw[hH1];exact hr,hk⟩
   ·exact⟨(hs2.lo r (hin1n r hr) k hf).2,r,by rw[hH1]at hr;exact hr,hf⟩
 ·show u=_;rw[eu];show _=Value.pointer (some ⟨j3 (ε1 rb),0,none⟩);rw[erb]
 rintro e w3 ⟨v,ε',φ',rfl,hε',_,hp',hlo',hdj',hbel'⟩;obtain⟨ε3,φ3,k1,k2,k3,k4,k5⟩:=hp' 1 _ rfl;have hloan:∀k,nW [(0,Hp.box tb lb),(1,Hp.caller (mf rd dd (w.heap.size+1) w.heap.size Tk) a.tmps (bQ rd dd (.loop (dD fn a.tmps p assign body w.heap.size (stat (.next s0:St σ ρ)) (n_ j (.next s0:St σ ρ)))) C (.next s0)))] φ2 k->c.base<=k\/c.L k:=by
  rintro k ⟨r,hr,hf⟩;rcases hget2n hr with rfl|rfl
  ·exact(hs2.lo rb hrb1n k hf).1
  ·obtain⟨r,hr,hf⟩:=hf;exact(hs2.lo r (hin1n r hr) k hf).1
 have hF1:∀k,φ' 1 k->(c.base<=k\/c.L k)/\k<w3.heap.size:=fun k hk=>by
  have:=hlo' 1 (by simp[af]) k hk;refine⟨?_,this.2⟩;rcases this.1 with h|h
  ·exact .inl (Nat.le_trans hs2.fV h)
  ·exact hloan k h
 have hregE:∀{HE:List (Nat×Hp)},(∀r,af HE r≠none->∀k,φ3 r k->φ' 1 k)->∀k,Am.al ⟨Am.al c (af HA) φ1,W.heap.size,W,0,nW [(0,Hp.box tb lb),(1,Hp.caller (mf rd dd (w.heap.size+1) w.heap.size Tk) a.tmps (bQ rd dd (.loop (dD fn a.tmps p assign body w.heap.size (stat (.next s0:St σ ρ)) (n_ j (.next s0:St σ ρ)))) C (.next s0)))] φ2⟩ (af [(0,.box tb lb'),(1,.caller (mf rd dd (w.heap.size+1) w.heap.size Tk) a.tmps (bQ rd dd (.loop (dD fn a.tmps p assign body w.heap.size (stat cH) (n_ j cH))) C cH))]) φ' k->
   Am.al c (af HE) φ3 k:=by
  intro HE hHE k ⟨h1,h2⟩;refine⟨?_,fun r hr hf=>h2 1 (by simp[af]) (hHE r hr k hf)⟩;rcases h1 with h|h|h
  ·exact h.1
  ·exact .inr (.inl (Nat.le_trans hs2.fV h))
  ·exact .inr (hloan k h)
 have hS:Sat c (aM (mf rd dd (w.heap.size+1) w.heap.size Tk)) (af (bQ rd dd (.loop (dD fn a.tmps p assign body w.heap.size (stat cH) (n_ j cH))) C cH)) a w3:=by
  refine⟨ε3,φ3,?_⟩
  constructor
  ·exact fun t d ht=>d.mono (k1 t d ht) (fun _ _=>rfl) (fun k hk _=>⟨hregE k4 k hk,rfl⟩)
  ·exact fun t d ht r hr=>dc (hTn _ _ _ _) r (l3 ht r hr)
  ·exact fun r h hr=>h.mono (k2 r h hr) (fun _ _=>rfl) (fun k hk _=>⟨hregE k4 k hk,rfl⟩) (fun _ _=>rfl)
  ·exact pM (by
    show cE _ (j4 (C cH))=true;exact hHn _ _)
  ·exact fun r hr k hk=>hF1 k (k4 r hr k hk)
  ·exact k3
  ·refine hs2.pP.trans ⟨hbel'.os,hbel'.tape,hbel'.output,hbel'.size,fun k hk hl=>hbel'.block k (Nat.lt_of_lt_of_le hk hs2.fV) (fun hf=>?_)⟩;rcases hloan k hf with h|h
   ·omega
   ·exact hl h
  ·exact hs.bs
  ·exact hs.sz
  ·exact hs.df
 obtain⟨hl3,hS4⟩:=sI (.loop {dD fn a.tmps p assign body w.heap.size (stat cH) (n_ j cH)with state:=.exhausted}) hS (fun ε φ hs=>hs.t 2000000 _ rfl);refine⟨n_ j cH,_,run_endLoop (P:=P) hl3 (by cases cH<;>simp[dD,stat]),?_⟩;have hdf:a.defers=[]:=hs.df;have hfin:=hQ (w.heap.size+1) w.heap.size _ {a with defers:=[mark w.heap.size]++a.defers} _ (by simp[hdf]) (by
  have e1:({({a with defers:=[mark w.heap.size]++a.defers}:Act)with defers:=[]}:Act)=a:=by
   cases a;simp only at hdf;subst hdf;rfl
  rw[e1];exact hS4)
 cases cH with
 |next s=>exact hfin
 |done r=>exact wpIn_exit hfin
def F7(P:Program)(ds:List Deferred)(c:Ctx)(T:List (Nat×D))(H:List (Nat×Hp))(x:Code)(Q:Exit->Act->World->Prop):Prop:=
 ∀a w,a.defers=ds->Sat c (aM T) (af H) {a with defers:=[]} w->x.wp P Q a w
theorem pc(a:Act)(xs:List Deferred)(dst:Option Nat)(v:Value):({a with defers:=xs}:Act).put dst v={a.put dst v with defers:=xs}:=by cases dst<;>rfl
theorem E9{o:Oper}{a:Act}{xs ds:List Deferred}{next next':Act->World->Prop}{S:Act->World->Prop}{Q':Exit->Act->World->Prop}(hn:∀(b:Act) (ys:List Deferred) (w:World),next {b with defers:=ys} w->next' {b with defers:=ys++ds} w):∀{r:Result Next},o.upon P {a with defers:=xs} next (fun e a w=>e=.normal/\S a w) r->o.upon P {a with defers:=xs++ds} next' Q' r
 |.ok (.value v) w',h=>by
  rw[Oper.upon_value,pc]at*;exact hn _ _ _ h
 |.ok .skip w',h=>by
  rw[Oper.upon_skip,pc]at*;exact hn _ _ _ h
 |.ok (.defer d) w',h=>by
  rw[Oper.upon_defer]at*;exact(pc a (d::(xs++ds)) o.dst undef)▸hn (a.put o.dst undef) (d::xs) w' ((pc a (d::xs) o.dst undef)▸h)
 |.ok (.enter f args) w',h=>Calls.mono h fun e w'' hr=>by
   cases e with
   |returned v=>
    simp only at hr|-;rw[pc]at*;exact hn _ _ _ hr
   |panicked chain=>exact absurd hr.1 (by simp)
   |outgrown=>obtain⟨a,w,he,_⟩:=hr;cases he
 |.ok (.row row args) w',h=>Rows.mono h fun v w'' hr=>by
   rw[pc]at*;exact hn _ _ _ hr
 |.halt (.panic v) w',h=>absurd h.1 (by simp)
 |.ok (.round ..) _,h=>h.elim
theorem xa{ds:List Deferred}{ops:Array Oper}{S:Act->World->Prop}:∀(is:List Nat) (xs:List Deferred) (a:Act) (w:World),
  wpOps P ops (fun e a w=>e=.normal/\S a w) is {a with defers:=xs} w->wpOps P ops (fun e a w=>e=.normal/\∃ys,a.defers=ys++ds/\S {a with defers:=ys} w) is {a with defers:=xs++ds} w
 |[],xs,a,w,h=>⟨h.1,xs,rfl,h.2⟩
 |i::rest,xs,a,w,h=>by
  unfold wpOps at h|-;cases ho:ops[i]?with
  |none=>rw[ho]at h;exact xa rest xs a w h
  |some o=>
   rw[ho]at h;simp only at h|-
   split
   ·rename_i hw1;rw[if_pos hw1]at h;rcases h with h|h
    ·refine .inl ?_;unfold Oper.wp at h|-;have he:({a with defers:=xs}:Act).eval=({a with defers:=xs++ds}:Act).eval:=by funext x;cases x<;>rfl
     rw[he]at h;exact E9 (fun b ys w hk=>xa rest ys b w hk) h
    ·obtain⟨_,a,w,he,_⟩:=h;cases he
   ·rename_i hw1;rw[if_neg hw1]at h;rw[pc]at h|-;exact xa rest xs _ w h
theorem Ea{ds:List Deferred}{ops:Array Oper}{c:Ctx}{T:List (Nat×D)}{H:List (Nat×Hp)}(is:List Nat)(a:Act)(w:World)(ha:a.defers=ds)
  (h:wpOps P ops (fun e a w=>e=.normal/\Sat c (aM T) (af H) a w) is {a with defers:=[]} w):wpOps P ops (fun e a w=>e=.normal/\∃ys,a.defers=ys++ds/\Sat c (aM T) (af H) {a with defers:=ys} w) is a w:=by
 have:=xa (ds:=ds) is [] a w h;have e:({a with defers:=[]++ds}:Act)=a:=by subst ha;rfl
 rw[e]at this;exact this
theorem lS.cq{c:Ctx}{T:List (Nat×D)}{H:List (Nat×Hp)}{Q:Exit->Act->World->Prop}{x y:Code}{o:Operand}{b:Bool}(h:ev T o=some (.bool b))(hb:b=true)(k:lS P c T H x Q):lS P c T H (.cond o x y) Q:=by subst hb;exact .cT h k
theorem lS.cA{c:Ctx}{T:List (Nat×D)}{H:List (Nat×Hp)}{Q:Exit->Act->World->Prop}{x y:Code}{o:Operand}{b:Bool}(h:ev T o=some (.bool b))(hb:¬b=true)(k:lS P c T H y Q):lS P c T H (.cond o x y) Q:=by
 have:b=false:=by simpa using hb
 subst this;exact .cF h k
theorem lS.on{c:Ctx}{T:List (Nat×D)}{H:List (Nat×Hp)}{Q:Exit->Act->World->Prop}{y:Code}(h:lS P c T H y Q):∀a w,Sat c (aM T) (af H) a w->(Exit.then (fun a w=>∀l n,y.wpIn (FR l) n P Q a w) Q) .normal a w:=fun a w hs l n=>h l n a w hs
section
variable {ds:List Deferred} {c:Ctx} {T T':List (Nat×D)} {H H':List (Nat×Hp)} {Q:Exit->Act->World->Prop} {x y:Code} {id:Nat} {sps:List Spec}
theorem Hg{c:Ctx}{T:List (Nat×D)}{H:List (Nat×Hp)}{a:Act}{ys:List Deferred}{w:World}(h:a.defers=ys++ds)(hs:Sat c (aM T) (af H) {a with defers:=ys} w):a.defers=ds/\Sat c (aM T) (af H) {a with defers:=[]} w:=by
 obtain⟨ε,φ,hs0⟩:=hs;have:ys=[]:=hs0.df;subst this;exact⟨h,ε,φ,hs0⟩
theorem F7.de{l:List Oper}(hm:P.follows .mixedOrders=true)(h:ai P l.toArray c l T H sps T' H')(hd:fb c.n l=true)(hord:nz [] [] 0 (l.zip sps)=true)(hQ:∀a w,a.defers=ds->Sat c (aM T') (af H') {a with defers:=[]} w->Q .normal a w):F7 P ds c T H (.region id l.toArray true) Q:=by
 intro a w ha hs;refine wp_mono (wp_region_draw (fun t=>Ea (c:=c) (T:=T') (H:=H') _ a _ ha ?_)) ?_
 ·simp only[Region.schedule,hm,Bool.true_or,if_true];exact wpAny_sound l.toArray.size t _ _ _ (h.tw hd hord (Q:=fun e a w=>e=.normal/\Sat c (aM T') (af H') a w) (fun a w hs=>⟨rfl,hs⟩) _ w hs)
 ·rintro e a w ⟨rfl,ys,h1,h2⟩;obtain⟨h3,h4⟩:=Hg h1 h2;exact hQ a w h3 h4
theorem F7.dh{l:List Oper}(hm:P.follows .mixedOrders=true)(h:ai P l.toArray c l T H sps T' H')(hd:fb c.n l=true)(hord:nz [] [] 0 (l.zip sps)=true)(hy:F7 P ds c T' H' y Q):F7 P ds c T H (.seq (.region id l.toArray true) y) Q:=
 fun a w ha hs=>wp_seq (F7.de hm h hd hord (fun a w ha hs=>hy a w ha hs) a w ha hs)
theorem Sat.IX{fn:Func}{xs:List ResultVar}{dl:List D}{d:D}{Hi Ho:List (Nat×Hp)}{b:Nat->Value}{dd D0 n:Nat}{a:Act}{w:World}(hd:a.defers=[mark D0])(hs:Sat c (aM T) (af ((dd,.obj (.deferred (some [])))::H)) {a with defers:=[]} w)
  (hpin:∀ε φ,cd c (aM T) (af ((dd,.obj (.deferred (some [])))::H)) {a with defers:=[]} w ε φ->ε dd=ptrTo D0)(hx:fn.results=xs.toArray)(h:xh P c T ((dd,.obj (.deferred none))::H) xs dl)(hle:Le (DJ dl) d)(hT:iO T (pins b (names Hi)))(hH:kY ((dd,.obj (.deferred none))::H) Ho):
  bodyPostM Fence.wide n P fn (A0 c Hi Ho b d) .ret a w:=by
 obtain⟨hD,hS⟩:=sI (.deferred none) hs hpin;obtain⟨_,v,hv,hR⟩:=Sat.aN hx h hle hT hH _ _ hS;show LeavesInM _ _ P fn a.tmps _ a.defers .returning w;rw[hd];exact⟨by simp,.inl ⟨D0,_,rfl,run_takeDeferred hD,v,hv,hR⟩⟩
theorem xC{fn:Func}{R:Ending->World->Prop}{n:Nat}:∀a w,bodyPost P fn R .ret a w->bodyPostM Fence.wide n P fn R .ret a w:=by
 rintro a w ⟨ha,v,hv,hR⟩;show LeavesInM _ _ P fn a.tmps _ a.defers .returning w;rw[ha];exact⟨v,hv,hR⟩
end
theorem aW.ofM{f:FuncId}{fn:Func}{x:Code}{Hi Ho:List (Nat×Hp)}{ds:List D}{d:D}(hf:P.funcs[f]?=some fn)(hb:fn.body=some x)(hok:oR P f=true)(hd:cE Hi (bD ds)=true)(hni:cE Hi (j4 Hi)=true)(hno:cE Ho (j4 Ho)=true)(hnr:cE Ho d.nm=true)(hk:cE Ho (names Hi)=true)
  (hl:Nat.ble ds.length fn.ntmps=true)(h:∀A w0 L b,Ok P ⟨A,w0.heap.size,w0,fn.ntmps,L⟩ (frame 0 ds++pins b (names Hi)) Hi x (bodyPostM Fence.wide 0 P fn (A0 ⟨A,w0.heap.size,w0,fn.ntmps,L⟩ Hi Ho b d))):aW P f Hi ds Ho d where
 ok:=hok
 G6:=hd
 Hw:=hni
 Gg:=hno
 Ev:=hnr
 ta:=hk
 calls:=by
  intro A w ε φ vs hlo hdj hp hv;refine Calls.mono (callsIn_wide.1 (callsIn_of_wp_marks hf hb trivial (wpIn_wide.2 (h A w (nW Hi φ) ε _ _ ⟨ε,φ,?_⟩)))) (fun e w' ⟨v,ε',φ',e',hε,hB⟩=>⟨v,ε',φ',e',hε,hB⟩);have hlen:=aL hv;have hl':=Nat.le_of_ble_eq_true hl;have hreg:∀k,A k->k<w.heap.size->al ⟨A,w.heap.size,w,fn.ntmps,nW Hi φ⟩ (af Hi) φ k/\w.heap[k]?=w.heap[k]?:=fun k hk _=>⟨⟨.inl hk,fun r hr hf=>(hlo r hr k hf).1 hk⟩,rfl⟩
  constructor
  ·intro t d' ht;rcases iG ht with ht|ht
   ·obtain⟨j,v,e,hj,hp,_⟩:=fo hv ht;have hjl:j<vs.length:=(List.getElem?_eq_some_iff.1 hj).1;have:(vs.toArray++Array.replicate (fn.ntmps-vs.toArray.size) undef).getD t undef=v:=by
     simp only[Nat.zero_add]at e;subst e;simp[Array.getD_eq_getD_getElem?,Array.getElem?_append,hjl];have:=(List.getElem?_eq_some_iff.1 hj).2;exact this
    rw[this];exact d'.mono hp (fun _ _=>rfl) hreg
   ·obtain⟨r,_,_,rfl⟩:=jS ht
    rfl
  ·intro t d' ht r hr;rcases iG ht with ht|ht
   ·obtain⟨_,_,_,_,_,hm⟩:=fo hv ht;exact dc hd r (bG.2 ⟨d',hm,hr⟩)
   ·obtain⟨r',hr',_,rfl⟩:=jS ht;have:r=r':=by simpa [D.pinned]using hr
    subst this;exact bU.2 hr'
  ·exact fun r y hy=>y.mono (hp r y hy) (fun _ _=>rfl) hreg (fun _ _=>rfl)
  ·exact pM hni
  ·exact fun r hr k hk=>⟨.inr ⟨r,hr,hk⟩,(hlo r hr k hk).2⟩
  ·exact hdj
  ·exact .of (Below.refl _ _)
  ·rfl
  ·simp[hlen];omega
  ·rfl
end
end Go.Am
namespace Go.Am
end Go.Am
namespace Go.Am
def better(a c b:Rat):Prop:=ja (c-a)<ja (b-a)\/(ja (c-a)=ja (b-a)/\(c.den<b.den\/(c.den=b.den/\c<b)))
def zG(a:Rat)(n:Nat)(r:Rat):Prop:=r.den<=n/\∀y:Rat,y.den<=n->¬better a y r
theorem fH{a x y z:Rat}(h1:¬better a z y)(h2:¬better a y x):¬better a z x:=by
 unfold better at*;generalize ja (x-a)=u at*;generalize ja (y-a)=v at*;generalize ja (z-a)=w at*;generalize x.den=d at*;generalize y.den=e at*;generalize z.den=f at*
 grind
theorem pr(a x:Rat):¬better a x x:=by unfold better;grind
theorem xE{a x y:Rat}(h:better a x y):¬better a y x:=by
 unfold better at*;generalize ja (x-a)=u at*;generalize ja (y-a)=v at*;generalize x.den=d at*;generalize y.den=e at*
 grind
theorem y3{a x y:Rat}(h1:¬better a x y)(h2:¬better a y x):x=y:=by
 unfold better at*;generalize ja (x-a)=u at*;generalize ja (y-a)=v at*;generalize x.den=d at*;generalize y.den=e at*
 grind
theorem vQ{a:Rat}{n:Nat}{r s:Rat}(h:zG a n r)(k:zG a n s):r=s:=y3 (k.2 r h.1) (h.2 s k.1)
theorem Dp{a z l:Rat}(h:z<=l)(k:l<=a):¬better a z l:=by
 unfold better ja
 grind
theorem Dk{a z r:Rat}(h:r<=z)(k:a<=r):¬better a z r:=by
 unfold better ja
 grind
theorem z7{m y:Int}{d q:Int}(hd:0<d)(hq:0<q):((y:Rat)/(q:Rat)<(m:Rat)/(d:Rat))↔y*d<m*q:=by
 have hd':(0:Rat)<(d:Rat):=by exact_mod_cast hd
 have hq':(0:Rat)<(q:Rat):=by exact_mod_cast hq
 rw[Rat.div_lt_iff hq',show(m:Rat)/(d:Rat)*(q:Rat)=((m:Rat)*(q:Rat))/(d:Rat)by grind,Rat.lt_div_iff hd']
 exact_mod_cast Iff.rfl
theorem sv(z:Rat):((z.num:Int):Rat)/(((z.den:Nat):Int):Rat)=z:=by
 have:=Rat.mkRat_self z;rw[Rat.mkRat_eq_div]at this;exact this
theorem Ij{l1 d1 r1 d2 most:Int}(h1:0<d1)(h2:0<d2)(hdet:r1*d1-l1*d2=1)(hm:most<d1+d2)(z:Rat)(hz:(z.den:Int)<=most):z<=(l1:Rat)/(d1:Rat)\/(r1:Rat)/(d2:Rat)<=z:=by
 by_cases c1:z<=(l1:Rat)/(d1:Rat)
 ·exact .inl c1
 by_cases c2:(r1:Rat)/(d2:Rat)<=z
 ·exact .inr c2
 exfalso
 have c1:=Rat.not_le.1 c1;have c2:=Rat.not_le.1 c2;have hzd:0<(z.den:Int):=by have:=z.den_nz;omega
 rw[←sv z]at c1 c2;rw[z7 hzd h1]at c1;rw[z7 h2 hzd]at c2;generalize (z.den:Int)=d at*;generalize z.num=m at*;have e1:1*d2<=(m*d1-l1*d)*d2:=Int.mul_le_mul_of_nonneg_right (by omega) (by omega);have e2:1*d1<=(r1*d-m*d2)*d1:=Int.mul_le_mul_of_nonneg_right (by omega) (by omega);have e3:(m*d1-l1*d)*d2+(r1*d-m*d2)*d1=d:=by
  have:(m*d1-l1*d)*d2+(r1*d-m*d2)*d1=d*(r1*d1-l1*d2):=by grind
  rw[this,hdet];omega
 omega
theorem y5{l d:Int}(h:0<d):(((l:Rat)/(d:Rat)).den:Int)<=d:=by
 obtain⟨n,rfl⟩:=Int.eq_ofNat_of_zero_le (Int.le_of_lt h);have e:((l:Rat)/(((n:Nat):Int):Rat))=mkRat l n:=by rw[Rat.mkRat_eq_div];rfl
 rw[e];have hn:n≠0:=by omega
 have:=jA l n hn;omega
theorem AN{a:Rat}{l1 d1 r1 d2 most:Int}(h1:0<d1)(h2:0<d2)(hd1:d1<=most)(hd2:d2<=most)(hdet:r1*d1-l1*d2=1)(hm:most<d1+d2)(ha:(l1:Rat)/(d1:Rat)<=a)(hb:a<=(r1:Rat)/(d2:Rat)){r:Rat}
  (hr:r=(l1:Rat)/(d1:Rat)\/r=(r1:Rat)/(d2:Rat))(k1:¬better a ((l1:Rat)/(d1:Rat)) r)(k2:¬better a ((r1:Rat)/(d2:Rat)) r):zG a most.toNat r:=by
 have e1:=y5 (l:=l1) h1;have e2:=y5 (l:=r1) h2;refine⟨by rcases hr with rfl|rfl<;>omega,fun y hy=>?_⟩;rcases Ij h1 h2 hdet hm y (by omega)with h|h
 ·exact fH (Dp h ha) k1
 ·exact fH (Dk h hb) k2
theorem EY{x y:Rat}:iu x y<0↔x<y:=by unfold iu;grind
theorem oK{x y:Rat}:iu x y=0↔x=y:=by unfold iu;grind
theorem s7(a c b:Rat):closer a c b=true↔better a c b:=by
 unfold closer better fR;simp only[Bool.or_eq_true,Bool.and_eq_true,decide_eq_true_eq,beq_iff_eq,EY,oK];have h1:(if c.den<b.den then(-1:Int)else if b.den<c.den then 1 else 0)<0↔c.den<b.den:=by grind
 have h2:(if c.den<b.den then(-1:Int)else if b.den<c.den then 1 else 0)=0↔c.den=b.den:=by grind
 rw[h1,h2]
theorem tu(a:Rat)(n j:Nat)(b:Rat):¬better a b (lG a n j b)/\¬better a (mkRat ((a*(n:Int)).floor+(j:Int)) n) (lG a n j b)/\(lG a n j b=b\/lG a n j b=mkRat ((a*(n:Int)).floor+(j:Int)) n):=by
 unfold lG;by_cases h:closer a (mkRat ((a*(n:Int)).floor+(j:Int)) n) b=true
 ·rw[if_pos h];exact⟨xE ((s7 _ _ _).1 h),pr _ _,.inr rfl⟩
 ·rw[if_neg h];exact⟨pr _ _,fun hb=>h ((s7 _ _ _).2 hb),.inl rfl⟩
theorem sV(a:Rat):∀n:Nat,(ni a n).den<=max 1 n/\∀y:Rat,y.den<=n->¬better a y (ni a n)
 |0=>⟨by show((a.floor:Int):Rat).den<=1;rw[Rat.den_intCast];exact Nat.le_refl _,fun y hy=>absurd hy (by have:=y.den_nz;omega)⟩
 |n+1=>by
  obtain⟨h1,h2⟩:=sV a n;obtain⟨a1,a2,a3⟩:=tu a (n+1) 0 (ni a n);obtain⟨b1,b2,b3⟩:=tu a (n+1) 1 (lG a (n+1) 0 (ni a n));show(lG a (n+1) 1 (lG a (n+1) 0 (ni a n))).den<=_/\∀y:Rat,y.den<=n+1->¬better a y (lG a (n+1) 1 (lG a (n+1) 0 (ni a n)));generalize hr1:lG a (n+1) 0 (ni a n)=r1 at*;generalize hr2:lG a (n+1) 1 r1=r2 at*;generalize ni a n=r0 at*;have hd:∀j:Int,(mkRat ((a*((n+1:Nat):Int)).floor+j) (n+1)).den<=n+1:=fun j=>jA _ _ (by omega);refine⟨?_,fun y hy=>?_⟩
  ·have:=hd 0;have:=hd 1;have h5:r1.den<=max 1 (n+1):=by
    rcases a3 with h|h
    ·rw[h];omega
    ·rw[h];have:=hd ((0:Nat):Int);omega
   rcases b3 with h|h
   ·rw[h];exact h5
   ·rw[h];have:=hd ((1:Nat):Int);omega
  ·by_cases hyn:y.den<=n
   ·exact fH (fH (h2 y hyn) a1) b1
   ·have hyd:y.den=n+1:=by omega
    have hn0:(0:Rat)<((n+1:Nat):Int):=by exact_mod_cast (by omega:(0:Int)<((n+1:Nat):Int))
    have ey:y=(y.num:Rat)/(((n+1:Nat):Int):Rat):=by rw[←hyd];exact(sv y).symm
    have hm:∀z:Int,mkRat z (n+1)=(z:Rat)/(((n+1:Nat):Int):Rat):=fun z=>by rw[Rat.mkRat_eq_div];rfl
    have hlo:=Rat.floor_le (a*((n+1:Nat):Int));have hhi:=Rat.lt_floor_add_one (a*((n+1:Nat):Int));generalize hF:(a*((n+1:Nat):Int)).floor=F at*;have div_le:∀u v:Rat,u<=v->u/(((n+1:Nat):Int):Rat)<=v/(((n+1:Nat):Int):Rat):=fun u v h=>Rat.not_lt.1 (fun h2=>by
     rw[Rat.div_lt_iff hn0,Rat.div_mul_cancel (by grind)]at h2;exact absurd h2 (Rat.not_lt.2 h))
    have ea:a=(a*((n+1:Nat):Int))/(((n+1:Nat):Int):Rat):=by rw[Rat.mul_div_cancel (by grind)]
    by_cases hc:y.num<=F
    ·refine fH (fH (Dp (l:=mkRat (F+((0:Nat):Int)) (n+1)) ?_ ?_) a2) b1
     ·rw[ey,hm];apply div_le;exact_mod_cast (by omega)
     ·rw[hm];rw[ea];apply div_le;rw[show F+((0:Nat):Int)=F by omega];exact hlo
    ·refine fH (Dk (r:=mkRat (F+((1:Nat):Int)) (n+1)) ?_ ?_) b2
     ·rw[ey,hm];apply div_le;exact_mod_cast (by omega)
     ·rw[hm];rw[ea];apply div_le;exact Rat.le_of_lt hhi
theorem sT(a:Rat)(n:Nat)(h:1<=n):zG a n (ni a n):=by
 have:=sV a n;exact⟨by have:=this.1;omega,this.2⟩
structure CF(a:Rat)(most:Int)(t:Rat)(p q lp lq:Int):Prop where
 hq:0<=q
 B6:0<=lq
 mq:q<=most
 I5:lq<=most
 Ir:p*lq-lp*q=1\/p*lq-lp*q=-1
 rel:a*(t*(q:Rat)+(lq:Rat))=t*(p:Rat)+(lp:Rat)
 one:(q=0/\lq=1)\/(1<=q/\1<=t)
theorem B8(a:Rat)(most:Int)(h:1<=most):CF a most a 1 0 0 1 where
 hq:=by omega
 B6:=by omega
 mq:=by omega
 I5:=h
 Ir:=.inl (by omega)
 rel:=by simp;grind
 one:=.inl ⟨rfl,rfl⟩
theorem Fo{a:Rat}{most:Int}{t:Rat}{p q lp lq:Int}(h:CF a most t p q lp lq)(hm:t.floor*q+lq<=most)(ht:t-(t.floor:Rat)≠0):CF a most (1/(t-(t.floor:Rat))) (t.floor*p+lp) (t.floor*q+lq) p q:=by
 have h1:=Rat.floor_le t;have h2:=Rat.lt_floor_add_one t;have h2':t-(t.floor:Rat)<1:=by
  have:((t.floor+1:Int):Rat)=(t.floor:Rat)+1:=by simp
  rw[this]at h2;grind
 have hpos:0<t-(t.floor:Rat):=by grind
 have hq1:1<=t.floor*q+lq:=by
  rcases h.one with⟨e1,e2⟩|⟨e1,e2⟩
  ·rw[e1,e2];omega
  ·have h3:1<=t.floor:=Rat.le_floor_iff.2 (by simpa using e2);have h4:1*q<=t.floor*q:=Int.mul_le_mul_of_nonneg_right h3 h.hq;have:=h.B6;omega
 generalize hf:t.floor=n at*;refine⟨by omega,h.hq,hm,h.mq,?_,?_,.inr ⟨hq1,?_⟩⟩
 ·rcases h.Ir with e|e
  ·right;grind
  ·left;grind
 ·have hr:=h.rel;have e1:((n*q+lq:Int):Rat)=(n:Rat)*q+lq:=by simp
  have e2:((n*p+lp:Int):Rat)=(n:Rat)*p+lp:=by simp
  rw[e1,e2];have hu:(1/(t-(n:Rat)))*(t-(n:Rat))=1:=Rat.div_mul_cancel ht;generalize 1/(t-(n:Rat))=u at*
  grind
 ·have hu:(1/(t-(n:Rat)))*(t-(n:Rat))=1:=Rat.div_mul_cancel ht;rw[show(1:Rat)<=1/(t-(n:Rat))↔1*(t-(n:Rat))<=1 by
   constructor
   ·intro h;grind
   ·intro _;exact Rat.not_lt.1 (fun h3=>by rw[Rat.div_lt_iff hpos]at h3;grind)]
  grind
theorem CG{a:Rat}{most:Int}{t:Rat}{p q lp lq k:Int}(hmost:1<=most)(h:CF a most t p q lp lq)(hm:most<t.floor*q+lq)(hk:k=(((most:Rat)-(lq:Rat))/(q:Rat)).floor):
  1<=q/\1<=k*q+lq/\k*q+lq<=most/\∀r,(r=((k*p+lp:Int):Rat)/((k*q+lq:Int):Rat)\/r=(p:Rat)/(q:Rat))->¬better a (((k*p+lp:Int):Rat)/((k*q+lq:Int):Rat)) r->¬better a ((p:Rat)/(q:Rat)) r->zG a most.toNat r:=by
 rcases h.one with⟨e1,e2⟩|⟨hq1,ht⟩
 ·exfalso;rw[e1,e2]at hm;omega
 have hqr:(0:Rat)<(q:Rat):=by exact_mod_cast (by omega:(0:Int)<q)
 have hlo:k*q<=most-lq:=by
  have h1:=Rat.floor_le (((most:Rat)-(lq:Rat))/(q:Rat));rw[←hk]at h1;have h2:¬(((most:Rat)-(lq:Rat))/(q:Rat)<(k:Rat)):=Rat.not_lt.2 h1;rw[Rat.div_lt_iff hqr]at h2;have h3:=Rat.not_lt.1 h2
  exact_mod_cast h3
 have hhi:most-lq<(k+1)*q:=by
  have h1:=Rat.lt_floor_add_one (((most:Rat)-(lq:Rat))/(q:Rat));rw[←hk,Rat.div_lt_iff hqr]at h1
  exact_mod_cast h1
 have hkn:k<t.floor:=by
  apply Int.lt_of_not_ge;intro h1;have:=Int.mul_le_mul_of_nonneg_right h1 h.hq;omega
 have hk0:0<=k:=by
  apply Int.le_of_not_gt;intro h1;have h2:(k+1)*q<=0*q:=Int.mul_le_mul_of_nonneg_right (by omega) h.hq;have:=h.I5;omega
 have e1:(k+1)*q=k*q+q:=by grind
 have hkq:0<=k*q:=Int.mul_nonneg hk0 h.hq;have B6:=h.B6;have hmq:=h.mq;have hD:1<=k*q+lq:=by omega
 refine⟨hq1,hD,by omega,fun r hr k1 k2=>?_⟩;have htn:(t.floor:Rat)<=t:=Rat.floor_le t;have hkt:(k:Rat)<t:=by
  have:(k:Rat)<(t.floor:Rat):=by exact_mod_cast hkn
  grind
 have hDr:(0:Rat)<((k*q+lq:Int):Rat):=by exact_mod_cast (by omega:(0:Int)<k*q+lq)
 have hlqr:(0:Rat)<=(lq:Rat):=by exact_mod_cast B6
 have hW:0<t*(q:Rat)+(lq:Rat):=by
  have:0<t*(q:Rat):=Rat.mul_pos (by grind) hqr
  grind
 have hrel:=h.rel;have f1:(a*q-p)*(t*q+lq)=-((p*lq-lp*q:Int):Rat):=by
  have:((p*lq-lp*q:Int):Rat)=(p:Rat)*lq-lp*q:=by simp
  rw[this];grind
 have f2:(a*((k*q+lq:Int):Rat)-((k*p+lp:Int):Rat))*(t*q+lq)=(t-k)*((p*lq-lp*q:Int):Rat):=by
  have:((p*lq-lp*q:Int):Rat)=(p:Rat)*lq-lp*q:=by simp
  rw[this];have e2:((k*q+lq:Int):Rat)=(k:Rat)*q+lq:=by simp
  have e3:((k*p+lp:Int):Rat)=(k:Rat)*p+lp:=by simp
  rw[e2,e3];grind
 have sgn_pos:∀u:Rat,0<u*(t*q+lq)->0<u:=fun u hu=>Rat.not_le.1 (fun hc=>by
  have:=Rat.mul_le_mul_of_nonneg_right hc (Rat.le_of_lt hW)
  grind)
 rcases h.Ir with hdet|hdet
 ·-- x < a < y
  rw[hdet]at f1 f2;have g1:0< -(a*q-p):=sgn_pos _ (by grind);have g2:0<a*((k*q+lq:Int):Rat)-((k*p+lp:Int):Rat):=sgn_pos _ (by rw[f2];simp;grind);refine AN (l1:=k*p+lp) (d1:=k*q+lq) (r1:=p) (d2:=q) (by omega) (by omega) (by omega) hmq (by grind) (by omega) ?_ ?_ hr k1 k2
  ·exact Rat.not_lt.1 (fun hc=>by rw[Rat.lt_div_iff hDr]at hc;grind)
  ·exact Rat.not_lt.1 (fun hc=>by rw[Rat.div_lt_iff hqr]at hc;grind)
 ·rw[hdet]at f1 f2;have g1:0<a*q-p:=sgn_pos _ (by rw[f1];simp;grind);have g2:0< -(a*((k*q+lq:Int):Rat)-((k*p+lp:Int):Rat)):=sgn_pos _ (by rw[Rat.neg_mul,f2];simp;grind);refine AN (l1:=p) (d1:=q) (r1:=k*p+lp) (d2:=k*q+lq) (by omega) (by omega) hmq (by omega) (by grind) (by omega) ?_ ?_ hr.symm k2 k1
  ·exact Rat.not_lt.1 (fun hc=>by rw[Rat.lt_div_iff hqr]at hc;grind)
  ·exact Rat.not_lt.1 (fun hc=>by rw[Rat.div_lt_iff hDr]at hc;grind)
theorem Gm{a:Rat}{most:Int}{t:Rat}{p q lp lq:Int}(h:CF a most t p q lp lq)(hm:t.floor*q+lq<=most)(ht:t-(t.floor:Rat)=0):(a.den:Int)<=most:=by
 have hq1:1<=t.floor*q+lq:=by
  rcases h.one with⟨e1,e2⟩|⟨e1,e2⟩
  ·rw[e1,e2];omega
  ·have h3:1<=t.floor:=Rat.le_floor_iff.2 (by simpa using e2);have h4:1*q<=t.floor*q:=Int.mul_le_mul_of_nonneg_right h3 h.hq;have:=h.B6;omega
 have e:a=((t.floor*p+lp:Int):Rat)/((t.floor*q+lq:Int):Rat):=by
  have hr:=h.rel;have ht':t=(t.floor:Rat):=by grind
  have e1:((t.floor*q+lq:Int):Rat)=t*q+lq:=by
   have:((t.floor*q+lq:Int):Rat)=(t.floor:Rat)*q+lq:=by simp
   rw[this,←ht']
  have e2:((t.floor*p+lp:Int):Rat)=t*p+lp:=by
   have:((t.floor*p+lp:Int):Rat)=(t.floor:Rat)*p+lp:=by simp
   rw[this,←ht']
  have hne:((t.floor*q+lq:Int):Rat)≠0:=by
   have:(0:Rat)<((t.floor*q+lq:Int):Rat):=by exact_mod_cast (by omega:(0:Int)<t.floor*q+lq)
   grind
  rw[e1]at hne|-;rw[e2,←hr,Rat.mul_div_cancel hne]
 have:=y5 (l:=t.floor*p+lp) (d:=t.floor*q+lq) (by omega);rw[←e]at this;omega
end Go.Am
namespace Go.Am
open Go.RowKit
set_option maxRecDepth 100000
noncomputable section
section
variable {P:Program} {n:Nat} {c:Ctx} {T T':List (Nat×D)} {H H':List (Nat×Hp)} {Q:Exit->Act->World->Prop} {ops:Array Oper}
theorem BA{o:Oper}{a:Act}{next next':Act->World->Prop}(hn:∀a w,next a w->next' a w):∀{r:Result Next},o.upon P a next Q r->o.uponIn Fence.wide n P a next' Q r
 |.ok (.value v) w',h=>hn _ _ h
 |.ok .skip w',h=>hn _ _ h
 |.ok (.defer d) w',h=>hn _ _ h
 |.ok (.enter f args) w',h=>⟨fun hd=>(by simp[Fence.wide]at hd),callsIn_wide.2 (Calls.mono h fun e w'' hr=>by
   cases e with
   |returned v=>exact hn _ _ hr
   |panicked chain=>exact hr
   |outgrown=>exact hr)⟩
 |.ok (.row row args) w',h=>⟨fun hd=>(by simp[Fence.wide]at hd),fun c cs _=>let⟨v,w',r,s⟩:=h c cs;⟨v,w',hn _ _ r,stepsIn_wide.2 s⟩⟩
 |.halt (.panic v) w',h=>h
 |.ok (.round ..) _,h=>h.elim
theorem ve{l:List Oper}{sps:List Spec}(h:ai P ops c l T H sps T' H'):∀(k:Nat) (rest:List Nat),(∀i,i<l.length->ops[k+i]?=l[i]?)->iU l=true->fb c.n l=true->
  (∀a w,Sat c (aM T') (af H') a w->wpOpsIn Fence.wide n P ops Q rest a w)->∀a w,Sat c (aM T) (af H) a w->wpOpsIn Fence.wide n P ops Q (List.range' k l.length++rest) a w:=by
 induction h with
 |nil=>exact fun k rest _ _ _ hk a w hs=>hk a w hs
 |@cons o os T H sp sps T' H' hs hi hh hn _ ih=>
  intro k rest hops hnd hd hk a w hsat;obtain⟨h1,h2⟩:=nR hd;have ho:ops[k]?=some o:=by have:=hops 0 (by simp);simpa using this
  have hnd0:=n9 hnd 0 o (by simp);have hnd1:iU os=true:=by
   unfold iU at hnd|-;rw[List.all_cons,Bool.and_eq_true]at hnd;exact hnd.2
  have:=hs h1 (aM T) (af H) hi hh hn a w hsat Q (wpOpsIn Fence.wide n P ops Q (List.range' (k+1) os.length++rest)) (fun a' w' hs'=>ih (k+1) rest (fun i hi=>by
   have:=hops (i+1) (by simp;omega);rw[show k+1+i=k+(i+1)by omega,this];simp) hnd1 h2 hk a' w' (by rw[iH,bq]at hs';exact hs'))
  rw[List.length_cons,List.range'_succ,List.cons_append];unfold wpOpsIn;rw[ho];simp only
  split
  ·rename_i hw;rw[if_pos hw]at this;refine⟨fun _ _=>trivial,?_⟩;rw[Oper.semAt_eq _ _ _ hnd0];exact BA (fun _ _ h=>h) this
  ·rename_i hw;rw[if_neg hw]at this;exact⟨fun _ _=>trivial,this⟩
theorem xD{id:Nat}{pre post:List Oper}{o:Oper}{T1 T2 T3:List (Nat×D)}{H1 H2 H3:List (Nat×Hp)}{sps sps2:List Spec}(hpre:ai P (pre++o::post).toArray c pre T H sps T1 H1)(hn1:iU pre=true)(hd1:fb c.n pre=true)
  (hg:o.guard=none)(ho:∀a w (K:Act->World->Prop),(∀a' w',Sat c (aM T2) (af H2) a' w'->K a' w')->Sat c (aM T1) (af H1) a w->o.wpIn Fence.wide n P a w K Q)
  (hpost:ai P (pre++o::post).toArray c post T2 H2 sps2 T3 H3)(hn2:iU post=true)(hd2:fb c.n post=true)(hQ:∀a w,Sat c (aM T3) (af H3) a w->Q .normal a w):Ok P c T H (.region id (pre++o::post).toArray false) Q:=by
 intro a w hs;refine(wpIn_wide (n:=n)).1 (wpIn_region ?_);have e1:List.range (pre++o::post).toArray.size=List.range' 0 pre.length++(pre.length::(List.range' (pre.length+1) post.length++[])):=by
  rw[List.range_eq_range',List.append_nil];have:(pre++o::post).toArray.size=pre.length+(post.length+1):=by simp
  rw[this,←List.range'_append_1,List.range'_succ,Nat.zero_add]
 rw[e1];refine ve hpre 0 _ (fun i hi=>by simp[List.getElem?_append_left hi]) hn1 hd1 (fun a w hs=>?_) a w hs;unfold wpOpsIn;have e2:(pre++o::post).toArray[pre.length]?=some o:=by simp
 rw[e2];simp only;rw[if_pos (a_ hg _)];refine ho a w _ (fun a' w' hs'=>?_) hs;refine ve hpost _ _ (fun i hi=>?_) hn2 hd2 (fun a w hs=>?_) a' w' hs'
 ·rw[List.getElem?_toArray,List.getElem?_append_right (by omega),show pre.length+1+i-pre.length=i+1 by omega,List.getElem?_cons_succ]
 ·exact hQ a w hs
theorem wA{σ ρ α:Type}{l:Nat}{TC:List (Nat×D)}{tm:Array Value}{C:St σ ρ->List (Nat×Hp)}{dx:α->D}{step:σ->α->Option (St σ ρ)}{s:σ}{x0:α}{st:St σ ρ}{id nc:Nat}{pre post:List Oper}{x y:Operand}{dst:Option Nat}{ty:TypeId}{pos:String}{aft:Array Edge}{ats:Array TypeId}{T1 T3:List (Nat×D)}{H1 H3:List (Nat×Hp)}{sps sps2:List Spec}
  (hY:qQ P l TC tm C dx step)(hst:step s x0=some st)(hdx:(dx x0).nm=[])
  (hpre:ai P (pre++⟨dst,.call {callee:=.value x,args:=#[y],argTypes:=ats},ty,pos,aft,none⟩::post).toArray c pre T H sps T1 H1)
  (hx:ev T1 x=some (.lit (.func (.yield l) #[] #[])))(hy:ev T1 y=some (dx x0))(hH:af H1 nc=some (.caller TC tm (C (.next s))))
  (hpost:ai P (pre++⟨dst,.call {callee:=.value x,args:=#[y],argTypes:=ats},ty,pos,aft,none⟩::post).toArray c post (bg T1 dst (.bool (oW st))) ((nc,.caller TC tm (C st))::H1) sps2 T3 H3)
  (hn1:iU pre=true)(hn2:iU post=true)(hd1:fb c.n pre=true)(hd2:fb c.n post=true)(hd:∀t,dst=some t->t<c.n)
  (hQ:∀a w,Sat c (aM T3) (af H3) a w->Q .normal a w):Ok P c T H (.region id (pre++⟨dst,.call {callee:=.value x,args:=#[y],argTypes:=ats},ty,pos,aft,none⟩::post).toArray false) Q:=
 xD (n:=0) hpre hn1 hd1 rfl (fun _ _ _ hK hs=>CO hY hst hx hy hdx hH hd hK hs) hpost hn2 hd2 hQ
end
theorem yo(a:Rat):aW PP 163 [] [qD a] [(1,Hp.box 28 (qC a))] (.qU 223 [] [.ref 1 0]):=by
 refine .of Go.Proofs.Tryz.func163 rfl (by kernel_rfl) rfl rfl rfl rfl rfl rfl (fun A w0 L b=>?_);show Ok PP _ [(0,qD a)] [] _ _;refine .al (.j8 rfl rfl<|.ao rfl<|.nil) rfl ?_;refine .al (.IU (l:=[]) (m:=[.ref 1 0]) trivial ⟨rfl,trivial⟩<|.ao rfl<|.nil) rfl ?_;exact .aN (fun _ _ hb=>hb) rfl (.cons (.tmp rfl) .nil) (.refl _) trivial (.of rfl)
def m9{σ ρ:Type}(step:σ->Rat->Option (St σ ρ))(x:Rat×σ):Option (St (Rat×σ) (Rat×St σ ρ)):=
 (qm x.1).bind fun n=>(step x.2 n).bind fun st=>match st with
  |.done r=>some (.done (x.1,.done r))
  |.next s=>(kH x.1 n).bind fun a=>(fm a).bind fun g=>if(g==0)=true then some (.done (a,.next s))else(fh 1).bind fun one=>(gR one a).bind fun b=>some (.next (b,s))
theorem CS(d:D):Le d .any:=⟨fun _ _ _ _ _=>trivial,fun r hr=>by cases hr⟩
theorem G0{σ ρ:Type}{l:Nat}{T:List (Nat×D)}{tm:Array Value}{C:St σ ρ->List (Nat×Hp)}{step:σ->Rat->Option (St σ ρ)}(hY:qQ PP l T tm C qD step){a aE:Rat}{s0:σ}{cH:St σ ρ}(h:Loop (m9 step) (a,s0)=some (aE,cH)):
  aW PP 223 [(0,.box 28 (qC a)),(1,.caller T tm (C (.next s0)))] [.lit (.func (.yield l) #[] #[]),.ref 0 0] [(0,.box 28 (qC aE)),(1,.caller T tm (C cH))] .any:=by
 refine .of Go.Proofs.Tryz.func223 rfl (by kernel_rfl) rfl rfl rfl rfl rfl rfl (fun A w0 L b=>?_);show Ok PP _ [(0,.lit (.func (.yield l) #[] #[])),(1,.ref 0 0),(1000000,.pinned 0 (b 0)),(1000001,.pinned 1 (b 1))] [(0,.box 28 (qC a)),(1,.caller T tm (C (.next s0)))] _ _;refine .block (.cc (fun(s:Rat×σ)=>[(0,D.lit (.func (.yield l) #[] #[])),(1,D.ref 0 0),(1000000,D.pinned 0 (b 0)),(1000001,D.pinned 1 (b 1))]) (fun(s:Rat×σ)=>[(0,Hp.box 28 (qC s.1)),(1,Hp.caller T tm (C (.next s.2)))]) h (.of rfl) (.of rfl) rfl rfl ?_);rintro⟨x,s⟩ st0 hb;have h:m9 step (x,s)=some st0:=hb;clear hb;unfold m9 at h;show Ok PP _ [(0,D.lit (.func (.yield l) #[] #[])),(1,D.ref 0 0),(1000000,D.pinned 0 (b 0)),(1000001,D.pinned 1 (b 1))] [(0,Hp.box 28 (qC x)),(1,Hp.caller T tm (C (.next s)))] _ _;refine .block ?_;obtain⟨v,e1,h⟩:=bind_some h;refine .al (.cb (qC x) rfl rfl aa rfl rfl<|.ah (Aw e1) ⟨rfl,trivial⟩ trivial trivial<|.fW (qC (0)) az ⟨k8,k_,kZ,trivial⟩ rfl<|.cH (qC v) rfl rfl rfl aa rfl rfl rfl<|.nil) rfl ?_;obtain⟨st,hst,h⟩:=bind_some h;refine .sq ?_;refine .seq (K:=fun a w=>Sat ⟨A,w0.heap.size,w0,Go.Proofs.Tryz.f223.ntmps,L⟩ (aM [(9,D.bool (!oW st)),(0,D.lit (.func (.yield l) #[] #[])),(1,D.ref 0 0),(3,D.ref 3 0),(1000000,D.pinned 0 (b 0)),(1000001,D.pinned 1 (b 1))]) (af [(0,Hp.box 28 (qC x)),(1,Hp.caller T tm (C st)),(3,Hp.box 28 (qC v))]) a w) ?_ ?_
 ·refine wA (pre:=[_,_]) (post:=[_]) (nc:=1) hY hst rfl (.mv rfl<|.cb (qC v) rfl rfl aa rfl rfl<|.nil) rfl rfl rfl (.not rfl<|.nil) rfl rfl rfl rfl (fun t ht=>by injection ht with ht;subst ht;exact Nat.le_of_ble_eq_true rfl) ?_;exact fun a w hs=>hs.sub (.of rfl) (.of rfl) rfl rfl
 show Ok PP _ [(9,D.bool (!oW st)),(0,D.lit (.func (.yield l) #[] #[])),(1,D.ref 0 0),(3,D.ref 3 0),(1000000,D.pinned 0 (b 0)),(1000001,D.pinned 1 (b 1))] [(0,Hp.box 28 (qC x)),(1,Hp.caller T tm (C st)),(3,Hp.box 28 (qC v))] _ _
 cases st with
 |done r=>
  refine .cT rfl ?_;refine .aN (Hi:=[(0,.box 28 (qC a)),(1,.caller T tm (C (.next s0)))]) (Ho:=[(0,.box 28 (qC x)),(1,.caller T tm (C (.done r)))]) (b:=b) (fn:=Go.Proofs.Tryz.f223) (d:=.any) (fun _ _ hb=>by
   refine⟨_,(Option.some.inj h).symm,fun e=>?_⟩;injection e with e1 e2;subst e1;subst e2;exact hb) rfl .nil (CS _) (.of rfl) (.of rfl)
 |next s'=>
  simp only at h;refine .cF rfl (.skip (Ok.on ?_));obtain⟨v2,e2,h⟩:=bind_some h;refine .sq ?_;refine .al (.cb (qC x) rfl rfl aa rfl rfl<|.cb (qC v) rfl rfl aa rfl rfl<|.ah (tK e2) ⟨rfl,rfl,trivial⟩ trivial trivial<|.cH (qC v2) rfl rfl rfl aa rfl rfl rfl<|.nil) rfl ?_;obtain⟨v3,e3,h⟩:=bind_some h;refine .al (.cb (qC v2) rfl rfl aa rfl rfl<|.ah (pz e3) ⟨rfl,trivial⟩ trivial trivial<|.cm rfl rfl rfl<|.nil) rfl ?_;by_cases c1:(v3==0)=true
  ·replace h:=ab c1 h;refine .cq rfl c1 ?_;exact .aN (Hi:=[(0,.box 28 (qC a)),(1,.caller T tm (C (.next s0)))]) (Ho:=[(0,.box 28 (qC v2)),(1,.caller T tm (C (.next s')))]) (b:=b) (fn:=Go.Proofs.Tryz.f223) (d:=.any) (fun _ _ hb=>by
    refine⟨_,(Option.some.inj h).symm,fun e=>?_⟩;injection e with e1 e2;subst e1;subst e2;exact hb) rfl .nil (CS _) (.of rfl) (.of rfl)
  ·replace h:=ae c1 h;refine .cA rfl c1 (.skip (Ok.on ?_));obtain⟨v4,e4,h⟩:=bind_some h;obtain⟨v5,e5,h⟩:=bind_some h;exact .de cn (.ah (i5 e4) ⟨rfl,trivial⟩ trivial trivial<|.cb (qC v2) rfl rfl aa rfl rfl<|.ah (nX e5) ⟨rfl,rfl,trivial⟩ trivial trivial<|.cH (qC v5) rfl rfl rfl aa rfl rfl rfl<|.nil) rfl (by kernel_rfl)
    (fun _ _ hs=>⟨(v5,s'),(Option.some.inj h).symm,hs.sub (.of rfl) (.of rfl) rfl rfl⟩)
def Aj(T:List (Nat×D)):List (Nat×D)->Prop
 |[]=>True
 |(t,d)::l=>aM T t=some d/\Aj T l
theorem rM{T:List (Nat×D)}:∀{l:List (Nat×D)},Aj T l->∀t d,aM l t=some d->aM T t=some d
 |[],_,r,h,hh=>by cases hh
 |(r0,h0)::l,ha,r,h,hh=>by
  simp only[aM]at hh
  cases hb:Nat.beq r r0 with
  |true=>rw[hb]at hh;injection hh with hh;subst hh;rw[Nat.eq_of_beq_eq_true hb];exact ha.1
  |false=>rw[hb]at hh;exact rM ha.2 r h hh
theorem xp{σ ρ:Type}{j:Nat}{Q:Exit->Act->World->Prop}{st:St σ ρ}{a:Act}{w:World}(h:Q .normal a w):Exit.inBlock j Q (Ac j st) a w:=by
 cases st with
 |next s=>exact h
 |done r=>exact aZ h
abbrev Ns:=Rat×Rat×Rat×Rat
def Ns.fin:St Ns Ns->Ns
 |.next s=>s
 |.done s=>s
def mn(most:Int)(s:Ns)(n:Rat):Option (St Ns Ns):=
 (eJ n s.2.1).bind fun v32=>(j0 v32 s.2.2.2).bind fun v34=>(fh most).bind fun v37=>(kK v34 v37).bind fun v38=>
  if(decide (v38>0))=true then(fh most).bind fun v41=>(kH v41 s.2.2.2).bind fun v43=>(gR v43 s.2.1).bind fun v45=>(qm v45).bind fun v46=>(eJ v46 s.1).bind fun v49=>(j0 v49 s.2.2.1).bind fun v51=>(eJ v46 s.2.1).bind fun v54=>(j0 v54 s.2.2.2).bind fun v56=>some (.done (v51,v56,s.1,s.2.1))
  else(eJ n s.1).bind fun v61=>(j0 v61 s.2.2.1).bind fun v63=>some (.next (v63,v34,s.1,s.2.1))
def wJ(a:Rat)(most:Int):Option (Rat×Int):=
 if(decide (most<1))=true then some (0,3)else(uD a).bind fun v17=>(fh most).bind fun v19=>(kK v17 v19).bind fun v20=>if(decide (v20<=0))=true then some (a,0)else(fh 1).bind fun v23=>(fh 0).bind fun v24=>
  (Loop (m9 (mn most)) (a,(v23,v24,v24,v23))).bind fun x=>(gR (Ns.fin x.2).1 (Ns.fin x.2).2.1).bind fun v70=>(gR (Ns.fin x.2).2.2.1 (Ns.fin x.2).2.2.2).bind fun v73=>(od a v70 v73).bind fun r=>some (r,0)
def Cb(a:Rat)(most:Int)(st:St Ns Ns):List (Nat×Hp):=
 [(2,Hp.box 28 (qC a)),(3,Hp.box 2 [D.int .i64 most]),(4,Hp.box 28 (qC 0)),(6,Hp.box 28 (qC (Ns.fin st).1)),(7,Hp.box 28 (qC (Ns.fin st).2.1)),(8,Hp.box 28 (qC (Ns.fin st).2.2.1)),(9,Hp.box 28 (qC (Ns.fin st).2.2.2))]
def F_:List (Nat×D):=[(2,D.ref 2 0),(3,D.ref 3 0),(4,D.ref 4 0),(6,D.ref 6 0),(7,D.ref 7 0),(8,D.ref 8 0),(9,D.ref 9 0)]
theorem Gh{a:Rat}{most:Int}{r:Rat}{e:Int}(h:wJ a most=some (r,e)):aW PP 28 [] [qD a,D.int .i64 most] [] (D.gV [qD r,D.int .i64 e]):=by
 unfold wJ at h;refine .ofM Go.Proofs.Tryz.func28 rfl (by kernel_rfl) rfl rfl rfl rfl rfl rfl (fun A w0 L b=>?_);show Ok PP _ [(0,qD a),(1,D.int .i64 most)] [] _ _;refine .al (.j8 rfl rfl<|.Jr rfl rfl rfl<|.fW (qC (0)) az ⟨k8,k_,kZ,trivial⟩ rfl<|.ao rfl<|.nil) rfl ?_;refine .sq ?_;refine .al (.bA (D.int .i64 most) rfl rfl gX rfl<|.cm rfl rfl rfl<|.nil) rfl ?_;by_cases c1:(decide (most<1))=true
 ·replace h:=ab c1 h;refine .cq rfl c1 ?_;refine .al (.pC (qC (0)) [] az cw trivial trivial ⟨k8,k_,kZ,trivial⟩<|.cH (qC (0)) rfl rfl rfl aa rfl rfl rfl<|.ao rfl<|.nil) rfl ?_;cases h;exact .aN xC rfl (.cons (.agg rfl rfl aa rfl) (.cons (.tmp rfl) .nil)) (.refl _) trivial trivial
 replace h:=ae c1 h;refine .cA rfl c1 (.skip (Ok.on ?_));obtain⟨v17,e17,h⟩:=bind_some h;obtain⟨v19,e19,h⟩:=bind_some h;obtain⟨v20,e20,h⟩:=bind_some h;refine .sq ?_;refine .dh cn (.cb (qC (a)) rfl rfl aa rfl rfl<|.ah (DU e17) ⟨rfl,trivial⟩ trivial trivial<|.bA (D.int .i64 most) rfl rfl gX rfl<|.ah (i5 e19) ⟨rfl,trivial⟩ trivial trivial<|.ah (nA e20) ⟨rfl,rfl,trivial⟩ trivial trivial<|.cm rfl rfl rfl<|.nil) rfl (by kernel_rfl) ?_;by_cases c2:(decide (v20<=0))=true
 ·replace h:=ab c2 h;refine .cq rfl c2 ?_;refine .al (.cb (qC (a)) rfl rfl aa rfl rfl<|.cH (qC (a)) rfl rfl rfl aa rfl rfl rfl<|.ao rfl<|.nil) rfl ?_;cases h;exact .aN xC rfl (.cons (.agg rfl rfl aa rfl) (.cons (.tmp rfl) .nil)) (.refl _) trivial trivial
 replace h:=ae c2 h;refine .cA rfl c2 (.skip (Ok.on ?_));obtain⟨v23,e23,h⟩:=bind_some h;obtain⟨v24,e24,h⟩:=bind_some h;refine .al (.ah (i5 e23) ⟨rfl,trivial⟩ trivial trivial<|.ah (i5 e24) ⟨rfl,trivial⟩ trivial trivial<|.ah (i5 e24) ⟨rfl,trivial⟩ trivial trivial<|.ah (i5 e23) ⟨rfl,trivial⟩ trivial trivial<|.fW (qC (0)) az ⟨k8,k_,kZ,trivial⟩ rfl<|.fW (qC (0)) az ⟨k8,k_,kZ,trivial⟩ rfl<|.fW (qC (0)) az ⟨k8,k_,kZ,trivial⟩ rfl<|.fW (qC (0)) az ⟨k8,k_,kZ,trivial⟩ rfl<|.cH (qC (v23)) rfl rfl rfl aa rfl rfl rfl<|.cH (qC (v24)) rfl rfl rfl aa rfl rfl rfl<|.cH (qC (v24)) rfl rfl rfl aa rfl rfl rfl<|.cH (qC (v23)) rfl rfl rfl aa rfl rfl rfl<|.nil) rfl ?_;refine .sq ?_;refine .al (.cb (qC (a)) rfl rfl aa rfl rfl<|.ah (yo a) ⟨rfl,trivial⟩ trivial ⟨rfl,trivial⟩<|.nil) rfl ?_;obtain⟨⟨aE,cH⟩,hl,h⟩:=bind_some h;refine .block ?_;refine Ok.G7 (σ:=Ns) (ρ:=Ns) (α:=Rat) (rb:=1) (tb:=28) (j:=0) (rd:=900) (dd:=901) (lb:=qC a) (lb':=qC aE) (C:=Cb a most) (dx:=qD) (step:=mn most) (s0:=(v23,v24,v24,v23)) (cH:=cH) F_ [2,3,4,6,7,8,9]
  rfl (by kernel_rfl) rfl rfl ?_ ?_ rfl rfl rfl rfl (fun _=>rfl) (fun _ _ _ _=>rfl) (fun _ _=>rfl) (fun _=>rfl) (Nat.le_of_ble_eq_true rfl) (fun l b fn tm hY=>G0 hY hl)
  (fun x=>[(10,Hp.box 28 (qC x))]) (fun β _ _ _=>[(10,D.ref 10 0),(2,D.ref 2 0),(3,D.ref 3 0),(4,D.ref 4 0),(6,D.ref 6 0),(7,D.ref 7 0),(8,D.ref 8 0),(9,D.ref 9 0)]++pins β [900,901,2,3,4,6,7,8,9]) ?_ ?_ ?_ ?_
 ·exact rM ⟨rfl,rfl,rfl,rfl,rfl,rfl,rfl,trivial⟩
 ·exact s8 ⟨rfl,rfl,rfl,rfl,rfl,rfl,rfl,trivial⟩
 ·exact fun β l b x=>(.of rfl)
 ·-- the left side
  intro l b o s x st hst A w0 L β;refine lS.region (fun⟨_,_,hf⟩=>hf.elim) rfl (.fW (qC (0)) az ⟨k8,k_,kZ,trivial⟩ rfl<|.cH (qC (x)) rfl rfl rfl aa rfl rfl rfl<|.nil) rfl (fun a' w' hs=>hs.sub (T':=[(10,D.ref 10 0),(2,D.ref 2 0),(3,D.ref 3 0),(4,D.ref 4 0),(6,D.ref 6 0),(7,D.ref 7 0),(8,D.ref 8 0),(9,D.ref 9 0),(1000900,D.pinned 900 (β 900)),(1000901,D.pinned 901 (β 901)),(1000002,D.pinned 2 (β 2)),(1000003,D.pinned 3 (β 3)),(1000004,D.pinned 4 (β 4)),(1000006,D.pinned 6 (β 6)),(1000007,D.pinned 7 (β 7)),(1000008,D.pinned 8 (β 8)),(1000009,D.pinned 9 (β 9))]) (H':=bQ 900 901 o (Cb a most) (.next s)++[(10,Hp.box 28 (qC x))]) (.of rfl) (.of rfl) rfl rfl)
 ·-- the body
  intro l b o s n st hst A w0 L β;obtain⟨p,q,lp,lq⟩:=s;unfold mn at hst;simp only at hst;show lS PP _ [(10,D.ref 10 0),(2,D.ref 2 0),(3,D.ref 3 0),(4,D.ref 4 0),(6,D.ref 6 0),(7,D.ref 7 0),(8,D.ref 8 0),(9,D.ref 9 0),(1000900,D.pinned 900 (β 900)),(1000901,D.pinned 901 (β 901)),(1000002,D.pinned 2 (β 2)),(1000003,D.pinned 3 (β 3)),(1000004,D.pinned 4 (β 4)),(1000006,D.pinned 6 (β 6)),(1000007,D.pinned 7 (β 7)),(1000008,D.pinned 8 (β 8)),(1000009,D.pinned 9 (β 9))] [(900,Hp.obj o),(901,Hp.obj (.deferred (some []))),(2,Hp.box 28 (qC a)),(3,Hp.box 2 [D.int .i64 most]),(4,Hp.box 28 (qC 0)),(6,Hp.box 28 (qC p)),(7,Hp.box 28 (qC q)),(8,Hp.box 28 (qC lp)),(9,Hp.box 28 (qC lq)),(10,Hp.box 28 (qC n))] _ _;refine .block ?_;obtain⟨v32,e32,hst⟩:=bind_some hst;obtain⟨v34,e34,hst⟩:=bind_some hst;obtain⟨v37,e37,hst⟩:=bind_some hst;obtain⟨v38,e38,hst⟩:=bind_some hst;refine .dh (by rintro⟨_,_,hf⟩;exact hf) rfl cn (.cb (qC (n)) rfl rfl aa rfl rfl<|.cb (qC (q)) rfl rfl aa rfl rfl<|.ah (lA e32) ⟨rfl,rfl,trivial⟩ trivial trivial<|.cb (qC (lq)) rfl rfl aa rfl rfl<|.ah (oU e34) ⟨rfl,rfl,trivial⟩ trivial trivial<|.fW (qC (0)) az ⟨k8,k_,kZ,trivial⟩ rfl<|.cH (qC (v34)) rfl rfl rfl aa rfl rfl rfl<|.nil) rfl (by kernel_rfl) ?_;refine .sq ?_;refine .dh (by rintro⟨_,_,hf⟩;exact hf) rfl cn (.cb (qC (v34)) rfl rfl aa rfl rfl<|.bA (D.int .i64 most) rfl rfl gX rfl<|.ah (i5 e37) ⟨rfl,trivial⟩ trivial trivial<|.ah (nA e38) ⟨rfl,rfl,trivial⟩ trivial trivial<|.cm rfl rfl rfl<|.nil) rfl (by kernel_rfl) ?_;by_cases c3:(decide (v38>0))=true
  ·replace hst:=ab c3 hst;refine .cq rfl c3 ?_;obtain⟨v41,e41,hst⟩:=bind_some hst;obtain⟨v43,e43,hst⟩:=bind_some hst;obtain⟨v45,e45,hst⟩:=bind_some hst;obtain⟨v46,e46,hst⟩:=bind_some hst;obtain⟨v49,e49,hst⟩:=bind_some hst;obtain⟨v51,e51,hst⟩:=bind_some hst;obtain⟨v54,e54,hst⟩:=bind_some hst;obtain⟨v56,e56,hst⟩:=bind_some hst;refine .dh (by rintro⟨_,_,hf⟩;exact hf) rfl cn (.bA (D.int .i64 most) rfl rfl gX rfl<|.ah (i5 e41) ⟨rfl,trivial⟩ trivial trivial<|.cb (qC (lq)) rfl rfl aa rfl rfl<|.ah (tK e43) ⟨rfl,rfl,trivial⟩ trivial trivial<|.cb (qC (q)) rfl rfl aa rfl rfl<|.ah (nX e45) ⟨rfl,rfl,trivial⟩ trivial trivial<|.ah (Aw e46) ⟨rfl,trivial⟩ trivial trivial<|.fW (qC (0)) az ⟨k8,k_,kZ,trivial⟩ rfl<|.cH (qC (v46)) rfl rfl rfl aa rfl rfl rfl<|.nil) rfl (by kernel_rfl) ?_;refine .dh (by rintro⟨_,_,hf⟩;exact hf) rfl cn (.cb (qC (v46)) rfl rfl aa rfl rfl<|.cb (qC (p)) rfl rfl aa rfl rfl<|.ah (lA e49) ⟨rfl,rfl,trivial⟩ trivial trivial<|.cb (qC (lp)) rfl rfl aa rfl rfl<|.ah (oU e51) ⟨rfl,rfl,trivial⟩ trivial trivial<|.cb (qC (v46)) rfl rfl aa rfl rfl<|.cb (qC (q)) rfl rfl aa rfl rfl<|.ah (lA e54) ⟨rfl,rfl,trivial⟩ trivial trivial<|.cb (qC (lq)) rfl rfl aa rfl rfl<|.ah (oU e56) ⟨rfl,rfl,trivial⟩ trivial trivial<|.cb (qC (p)) rfl rfl aa rfl rfl<|.cb (qC (q)) rfl rfl aa rfl rfl<|.cH (qC (v51)) rfl rfl rfl aa rfl rfl rfl<|.cH (qC (v56)) rfl rfl rfl aa rfl rfl rfl<|.cH (qC (p)) rfl rfl rfl aa rfl rfl rfl<|.cH (qC (q)) rfl rfl rfl aa rfl rfl rfl<|.nil) rfl (by kernel_rfl) ?_;have e0:=Option.some.inj hst;subst e0;exact .exit (fun a' w' hs=>⟨rfl,⟨_,rfl⟩,[(1000900,D.pinned 900 (β 900)),(1000901,D.pinned 901 (β 901)),(1000002,D.pinned 2 (β 2)),(1000003,D.pinned 3 (β 3)),(1000004,D.pinned 4 (β 4)),(1000006,D.pinned 6 (β 6)),(1000007,D.pinned 7 (β 7)),(1000008,D.pinned 8 (β 8)),(1000009,D.pinned 9 (β 9))],(.of rfl),hs.sub (.of rfl) (.of rfl) rfl rfl⟩)
  ·replace hst:=ae c3 hst;refine .cA rfl c3 (.skip (lS.on ?_));obtain⟨v61,e61,hst⟩:=bind_some hst;obtain⟨v63,e63,hst⟩:=bind_some hst;have e0:=Option.some.inj hst;subst e0;exact .de (by rintro⟨_,_,hf⟩;exact hf) rfl cn (.cb (qC (n)) rfl rfl aa rfl rfl<|.cb (qC (p)) rfl rfl aa rfl rfl<|.ah (lA e61) ⟨rfl,rfl,trivial⟩ trivial trivial<|.cb (qC (lp)) rfl rfl aa rfl rfl<|.ah (oU e63) ⟨rfl,rfl,trivial⟩ trivial trivial<|.cb (qC (v34)) rfl rfl aa rfl rfl<|.cb (qC (p)) rfl rfl aa rfl rfl<|.cb (qC (q)) rfl rfl aa rfl rfl<|.cH (qC (v63)) rfl rfl rfl aa rfl rfl rfl<|.cH (qC (v34)) rfl rfl rfl aa rfl rfl rfl<|.cH (qC (p)) rfl rfl rfl aa rfl rfl rfl<|.cH (qC (q)) rfl rfl rfl aa rfl rfl rfl<|.nil) rfl (by kernel_rfl)
    (fun a' w' hs=>⟨⟨_,rfl⟩,[(1000900,D.pinned 900 (β 900)),(1000901,D.pinned 901 (β 901)),(1000002,D.pinned 2 (β 2)),(1000003,D.pinned 3 (β 3)),(1000004,D.pinned 4 (β 4)),(1000006,D.pinned 6 (β 6)),(1000007,D.pinned 7 (β 7)),(1000008,D.pinned 8 (β 8)),(1000009,D.pinned 9 (β 9))],(.of rfl),hs.sub (.of rfl) (.of rfl) rfl rfl⟩)
 ·-- behind the loop
  intro l b o a' w' hd hs;obtain⟨v70,e70,h⟩:=bind_some h;obtain⟨v73,e73,h⟩:=bind_some h;obtain⟨rr,er,h⟩:=bind_some h;have hs':Sat _ (aM ((2000001,D.pinned 901 (ptrTo b))::F_)) (af ((901,Hp.obj (.deferred (some [])))::Cb a most cH)) _ _:=hs.sub (.of rfl) (.of rfl) rfl rfl;refine xp ?_;show Code.wp PP _ _ a' w';refine(show F7 PP [mark b] ⟨A,w0.heap.size,w0,_,L⟩ [(2000001,D.pinned 901 (ptrTo b)),(2,D.ref 2 0),(3,D.ref 3 0),(4,D.ref 4 0),(6,D.ref 6 0),(7,D.ref 7 0),(8,D.ref 8 0),(9,D.ref 9 0)] [(901,Hp.obj (.deferred (some []))),(2,Hp.box 28 (qC a)),(3,Hp.box 2 [D.int .i64 most]),(4,Hp.box 28 (qC 0)),(6,Hp.box 28 (qC (Ns.fin cH).1)),(7,Hp.box 28 (qC (Ns.fin cH).2.1)),(8,Hp.box 28 (qC (Ns.fin cH).2.2.1)),(9,Hp.box 28 (qC (Ns.fin cH).2.2.2))] _ _ from ?_) a' w' hd hs';refine F7.dh cn (.cb (qC (a)) rfl rfl aa rfl rfl<|.cb (qC ((Ns.fin cH).1)) rfl rfl aa rfl rfl<|.cb (qC ((Ns.fin cH).2.1)) rfl rfl aa rfl rfl<|.ah (nX e70) ⟨rfl,rfl,trivial⟩ trivial trivial<|.cb (qC ((Ns.fin cH).2.2.1)) rfl rfl aa rfl rfl<|.cb (qC ((Ns.fin cH).2.2.2)) rfl rfl aa rfl rfl<|.ah (nX e73) ⟨rfl,rfl,trivial⟩ trivial trivial<|.ah (Co er) ⟨rfl,rfl,rfl,trivial⟩ trivial trivial<|.cH (qC (rr)) rfl rfl rfl aa rfl rfl rfl<|.ao rfl<|.nil) rfl (by kernel_rfl) ?_;intro a2 w2 hd2 hs2;cases h;refine wp_ret ?_;have hs3:=hs2.sub (T':=[(2000001,D.pinned 901 (ptrTo b)),(4,D.ref 4 0),(5,D.int .i64 0)]) (H':=[(901,Hp.obj (.deferred (some []))),(4,Hp.box 28 (qC r))]) (.of rfl) (.of rfl) rfl rfl;exact Sat.IX hd2 hs3 (fun ε φ hs=>hs.t 2000001 _ rfl) rfl (.cons (.agg rfl rfl aa rfl) (.cons (.tmp rfl) .nil)) (.refl _) trivial trivial
end
end Go.Am
namespace Go.Am
theorem G8(x:Rat):1<=sz x:=by
 have h:=x.den_nz;have h1:bz 1<=bz x.den:=da (by omega);rw[nE]at h1;exact Nat.le_trans h1 (Nat.le_max_right _ _)
theorem oA(a b:Rat):sz (a/b)<=sz a+sz b:=by
 by_cases h:b=0
 ·subst h;have e:a/0=0:=by rw[Rat.div_def,Rat.inv_zero,Rat.mul_zero]
  have:=G8 a;rw[e];have e2:sz (0:Rat)=1:=rfl;omega
 ·exact GL a b h
theorem IE(a:Rat):a<=(((a.num.natAbs:Nat):Int):Rat)/\-a<=(((a.num.natAbs:Nat):Int):Rat):=by
 have hd:(0:Rat)<(((a.den:Nat):Int):Rat):=by
  have:=a.den_nz
  exact_mod_cast (by omega:(0:Int)<((a.den:Nat):Int))
 have key:∀z:Int,z<=((a.num.natAbs:Nat):Int)->(z:Rat)/(((a.den:Nat):Int):Rat)<=(((a.num.natAbs:Nat):Int):Rat):=by
  intro z hz;apply Rat.not_lt.1;intro h;rw[Rat.lt_div_iff hd]at h;have h2:(((a.num.natAbs:Nat):Int)*((a.den:Nat):Int))<z:=by exact_mod_cast h
  have h3:((a.num.natAbs:Nat):Int)*1<=((a.num.natAbs:Nat):Int)*((a.den:Nat):Int):=Int.mul_le_mul_of_nonneg_left (by have:=a.den_nz;omega) (by omega);omega
 have e:=sv a;refine⟨?_,?_⟩
 ·have:=key a.num (by omega);rw[e]at this;exact this
 ·have:=key (-a.num) (by omega);have e2:((-a.num:Int):Rat)/(((a.den:Nat):Int):Rat)=-a:=by
   rw[show((-a.num:Int):Rat)=-(a.num:Rat)by simp];have:-(a.num:Rat)/(((a.den:Nat):Int):Rat)=-((a.num:Rat)/(((a.den:Nat):Int):Rat)):=by grind
   rw[this,e]
  rw[e2]at this;exact this
theorem A5{a:Rat}{p q most:Int}(hq:0<=q)(hm:q<=most)(h1:a*(q:Rat)-(p:Rat)<=1)(h2:-1<=a*(q:Rat)-(p:Rat)):p.natAbs<=a.num.natAbs*most.toNat+1:=by
 obtain⟨a1,a2⟩:=IE a;have hqr:(0:Rat)<=(q:Rat):=by exact_mod_cast hq
 generalize a.num.natAbs=N at*;have b1:a*(q:Rat)<=((N:Int):Rat)*(q:Rat):=Rat.mul_le_mul_of_nonneg_right a1 hqr;have b2:-a*(q:Rat)<=((N:Int):Rat)*(q:Rat):=Rat.mul_le_mul_of_nonneg_right a2 hqr;have c1:(p:Rat)<=((N:Int):Rat)*(q:Rat)+1:=by grind
 have c2:-(p:Rat)<=((N:Int):Rat)*(q:Rat)+1:=by grind
 have d1:p<=(N:Int)*q+1:=by exact_mod_cast c1
 have d2:-p<=(N:Int)*q+1:=by exact_mod_cast c2
 have d3:(N:Int)*q<=(N:Int)*most:=Int.mul_le_mul_of_nonneg_left hm (by omega);obtain⟨m,rfl⟩:=Int.eq_ofNat_of_zero_le (show 0<=most by omega);rw[Int.toNat_natCast];have d4:((N*m:Nat):Int)=(N:Int)*(m:Int):=Int.natCast_mul N m;omega
theorem IP{a:Rat}{most:Int}{t:Rat}{p q lp lq:Int}(h:CF a most t p q lp lq)(hq1:1<=q):p.natAbs<=a.num.natAbs*most.toNat+1:=by
 have ht:1<=t:=by
  rcases h.one with⟨e1,_⟩|⟨_,e2⟩
  ·omega
  ·exact e2
 have hqr:(1:Rat)<=(q:Rat):=by exact_mod_cast hq1
 have hlqr:(0:Rat)<=(lq:Rat):=by exact_mod_cast h.B6
 have hW:1<=t*(q:Rat)+(lq:Rat):=by
  have:=Rat.mul_le_mul_of_nonneg_right ht (show(0:Rat)<=(q:Rat)by grind)
  grind
 have hrel:=h.rel;have f1:(a*q-p)*(t*q+lq)=-((p*lq-lp*q:Int):Rat):=by
  have:((p*lq-lp*q:Int):Rat)=(p:Rat)*lq-lp*q:=by simp
  rw[this];grind
 have hdet:((p*lq-lp*q:Int):Rat)=1\/((p*lq-lp*q:Int):Rat)=-1:=by
  rcases h.Ir with e|e<;>rw[e]<;>simp
 have hu:∀u:Rat,u*(t*q+lq)<=1->u<=1:=fun u hu=>Rat.not_lt.1 (fun hc=>by
  have:=Rat.mul_le_mul_of_nonneg_left hW (show(0:Rat)<=u by grind)
  grind)
 refine A5 h.hq h.mq (hu _ ?_) ?_
 ·rcases hdet with e|e<;>rw[e]at f1<;>grind
 ·have:=hu (-(a*q-p)) (by rcases hdet with e|e<;>rw[e]at f1<;>grind)
  grind
theorem Fi(t:Rat):t-(t.floor:Rat)=mkRat (t.num%(t.den:Int)) t.den:=by
 have hd:(((t.den:Nat):Int):Rat)≠0:=by
  have:=t.den_nz
  exact_mod_cast (by omega:((t.den:Nat):Int)≠0)
 rw[Rat.mkRat_eq_div];have e1:=sv t;have e2:t.floor=t.num/(t.den:Int):=Rat.floor_def t;have e3:((t.num:Int):Rat)=(((t.den:Nat):Int):Rat)*((t.num/(t.den:Int):Int):Rat)+((t.num%(t.den:Int):Int):Rat):=by
  have:=(Int.mul_ediv_add_emod t.num (t.den:Int)).symm
  exact_mod_cast this
 have e4:((t.den:Nat):Rat)=(((t.den:Nat):Int):Rat):=rfl;rw[e2,e4];generalize ((t.num:Int):Rat)=N at*;generalize (((t.den:Nat):Int):Rat)=D at*;generalize ((t.num/(t.den:Int):Int):Rat)=F at*;generalize ((t.num%(t.den:Int):Int):Rat)=R at*;rw[←e1,e3]
 grind
theorem De(t:Rat)(h:t-(t.floor:Rat)≠0):(1/(t-(t.floor:Rat))).den<t.den/\sz (1/(t-(t.floor:Rat)))<=sz t:=by
 rw[Fi]at h|-;have hd:=t.den_nz;have hr0:t.num%(t.den:Int)≠0:=fun e=>h (by rw[e];simp);have hr1:=Int.emod_nonneg t.num (show(t.den:Int)≠0 by omega);have hr2:=Int.emod_lt_of_pos t.num (show 0<(t.den:Int)by omega);obtain⟨r,hr⟩:=Int.eq_ofNat_of_zero_le hr1;rw[hr]at h hr0 hr2|-;have e:1/mkRat (r:Int) t.den=mkRat (t.den:Int) r:=by
  rw[Rat.mkRat_eq_div,Rat.mkRat_eq_div];have h1:((r:Nat):Rat)≠0:=by
   have:((r:Nat):Int)≠0:=hr0
   exact_mod_cast this
  have h2:((t.den:Nat):Rat)≠0:=by exact_mod_cast hd
  have e3:(((r:Nat):Int):Rat)=((r:Nat):Rat):=rfl;have e4:(((t.den:Nat):Int):Rat)=((t.den:Nat):Rat):=rfl;rw[e3,e4];grind
 rw[e];have hs:=(iF.1 (Nat.le_refl (sz t))).2;refine⟨Nat.lt_of_le_of_lt (jA _ _ (by omega)) (by omega),FM _ _ _ (by omega) (by rw[Int.natAbs_natCast];exact hs) (Nat.le_trans (da (by omega)) hs)⟩
theorem Dx(x y:Rat):iu ((x.den:Nat):Rat) ((y.den:Nat):Rat)=fR x.den y.den:=by
 unfold iu fR;have h1:(((x.den:Nat):Rat)<((y.den:Nat):Rat))↔x.den<y.den:=by exact_mod_cast Iff.rfl
 have h2:(((y.den:Nat):Rat)<((x.den:Nat):Rat))↔y.den<x.den:=by exact_mod_cast Iff.rfl
 simp only[h1,h2]
theorem Bp(a x y:Rat)(ha:sz a<=100000000000)(hx:sz x<=110000000000)(hy:sz y<=110000000000):∃r,od a x y=some r/\(r=x\/r=y)/\¬better a x r/\¬better a y r:=by
 have qa:dv a:=Nat.le_trans ha (by omega);have qx:dv x:=Nat.le_trans hx (by omega);have qy:dv y:=Nat.le_trans hy (by omega);have q1:dv (ja (x-a)):=by have:=rz x a;unfold dv;rw[An];omega
 have q2:dv (ja (y-a)):=by have:=rz y a;unfold dv;rw[An];omega
 have q3:dv ((x.den:Nat):Rat):=by have:=zw x;unfold dv;omega
 have q4:dv ((y.den:Nat):Rat):=by have:=zw y;unfold dv;omega
 have eA:∀v:Rat,AD v=some (ja v):=fun v=>rfl;have e1:kH x a=some (x-a):=aG ⟨qx,qa⟩;have e2:kH y a=some (y-a):=aG ⟨qy,qa⟩;have e3:kK (ja (x-a)) (ja (y-a))=some (iu (ja (x-a)) (ja (y-a))):=aG ⟨q1,q2⟩;have e4:uD x=some (x.den:Rat):=aG qx;have e5:uD y=some (y.den:Rat):=aG qy;have e6:kK ((x.den:Nat):Rat) ((y.den:Nat):Rat)=some (fR x.den y.den):=by rw[←Dx];exact aG ⟨q3,q4⟩
 have e7:kK x y=some (iu x y):=aG ⟨qx,qy⟩;unfold od;simp only[e1,e2,eA,e3,e4,e5,e6,e7,Option.bind_some];have t1:∀u v:Rat,(iu u v=-1/\u<v)\/(iu u v=1/\v<u)\/(iu u v=0/\u=v):=by intro u v;unfold iu;grind
 have t2:∀u v:Nat,(fR u v=-1/\u<v)\/(fR u v=1/\v<u)\/(fR u v=0/\u=v):=by intro u v;unfold fR;grind
 have c1:=t1 (ja (x-a)) (ja (y-a));have c2:=t2 x.den y.den;have c3:=t1 x y;clear t1 t2 e1 e2 eA e3 e4 e5 e6 e7 q1 q2 q3 q4 qa qx qy ha hx hy;rcases c1 with⟨h1,k1⟩|⟨h1,k1⟩|⟨h1,k1⟩
 ·rw[h1];exact⟨x,rfl,.inl rfl,by unfold better;grind,by unfold better;grind⟩
 ·rw[h1];exact⟨y,rfl,.inr rfl,by unfold better;grind,by unfold better;grind⟩
 ·rw[h1];rcases c2 with⟨h2,k2⟩|⟨h2,k2⟩|⟨h2,k2⟩
  ·rw[h2];exact⟨x,rfl,.inl rfl,by unfold better;grind,by unfold better;grind⟩
  ·rw[h2];exact⟨y,rfl,.inr rfl,by unfold better;grind,by unfold better;grind⟩
  ·rw[h2];rcases c3 with⟨h3,k3⟩|⟨h3,k3⟩|⟨h3,k3⟩
   ·rw[h3];exact⟨x,rfl,.inl rfl,by unfold better;grind,by unfold better;grind⟩
   ·rw[h3];exact⟨y,rfl,.inr rfl,by unfold better;grind,by unfold better;grind⟩
   ·rw[h3];exact⟨y,rfl,.inr rfl,by unfold better;grind,by unfold better;grind⟩
def nI(a:Rat)(most:Int)(x:Rat×Ns):Prop:=∃p q lp lq:Int,x.2=((p:Rat),(q:Rat),(lp:Rat),(lq:Rat))/\CF a most x.1 p q lp lq/\sz x.1<=sz a/\sz ((p:Int):Rat)<=sz a+80/\sz ((lp:Int):Rat)<=sz a+80
def nQ(a:Rat)(most:Int)(r:Rat×St Ns Ns):Prop:=(Ns.fin r.2).2.1≠0/\(Ns.fin r.2).2.2.2≠0/\sz (Ns.fin r.2).1<=3*sz a+10000/\sz (Ns.fin r.2).2.1<=10000/\sz (Ns.fin r.2).2.2.1<=3*sz a+10000/\sz (Ns.fin r.2).2.2.2<=10000/\
 ∀z,(z=(Ns.fin r.2).1/(Ns.fin r.2).2.1\/z=(Ns.fin r.2).2.2.1/(Ns.fin r.2).2.2.2)->¬better a ((Ns.fin r.2).1/(Ns.fin r.2).2.1) z->¬better a ((Ns.fin r.2).2.2.1/(Ns.fin r.2).2.2.2) z->zG a most.toNat z
theorem pX{q most:Int}(h0:0<=q)(h:q<=most)(hm:eM most):sz ((q:Int):Rat)<=65:=by
 unfold eM at hm;exact Nat.le_trans (qN q) (Nat.succ_le_succ (dS (n:=64) (by omega)))
theorem IQ{a:Rat}{most:Int}(hm:eM most){p:Int}(h:p.natAbs<=a.num.natAbs*most.toNat+1):sz ((p:Int):Rat)<=sz a+80:=by
 unfold eM at hm;have h1:bz most.toNat<=64:=dS (by omega);have h2:=cR (iF.1 (Nat.le_refl (sz a))).1 h1;have h3:bz 1<=sz a+64:=by rw[nE];omega
 have h4:=Nat.le_trans (da h) (tJ h2 h3);have:=qN p;omega
theorem BI(a:Rat)(most:Int)(ha:sz a<=10000000000)(hm:eM most)(h1:1<=most)(hden:most<(a.den:Int)):
  ∃r,Loop (m9 (mn most)) (a,((1:Rat),(0:Rat),(0:Rat),(1:Rat)))=some r/\nQ a most r:=by
 refine bZ (body:=m9 (mn most)) (a,((1:Rat),(0:Rat),(0:Rat),(1:Rat))) (nI a most) (fun x=>x.1.den) (nQ a most) ⟨1,0,0,1,by simp,B8 a most h1,Nat.le_refl _,?_,?_⟩ ?_
 ·have:=qN 1;have e:bz (1:Int).natAbs=1:=rfl;omega
 ·have:=qN 0;have e:bz (0:Int).natAbs=0:=rfl;omega
 rintro⟨t,s⟩ ⟨p,q,lp,lq,rfl,hc,ht,hp,hlp⟩;simp only at hc ht;have hq:=pX hc.hq hc.mq hm;have B6:=pX hc.B6 hc.I5 hm;have hmm:=pX (show 0<=most by omega) (Int.le_refl most) hm;have hf:=yj t;have qt:dv t:=Nat.le_trans ht (by omega);have e1:qm t=some (t.floor:Rat):=aG qt;have s2:=gQ (t.floor:Rat) (q:Rat);have e2:eJ (t.floor:Rat) (q:Rat)=some ((t.floor:Rat)*(q:Rat)):=aG ⟨by unfold dv;omega,by unfold dv;omega⟩;have s3:=nD ((t.floor:Rat)*(q:Rat)) (lq:Rat);have e3:j0 ((t.floor:Rat)*(q:Rat)) (lq:Rat)=some ((t.floor:Rat)*(q:Rat)+(lq:Rat)):=aG ⟨by unfold dv;omega,by unfold dv;omega⟩;have e4:fh most=some (most:Rat):=aG hm;have e5:kK ((t.floor:Rat)*(q:Rat)+(lq:Rat)) (most:Rat)=some (iu ((t.floor:Rat)*(q:Rat)+(lq:Rat)) (most:Rat)):=aG ⟨by unfold dv;omega,by unfold dv;omega⟩;have ei:(t.floor:Rat)*(q:Rat)+(lq:Rat)=((t.floor*q+lq:Int):Rat):=by simp
 unfold m9 mn;simp only[e1,e2,e3,e4,e5,Option.bind_some];by_cases hbig:most<t.floor*q+lq
 ·right
  have hcq:iu ((t.floor:Rat)*(q:Rat)+(lq:Rat)) (most:Rat)=1:=by
   have:(most:Rat)<(t.floor:Rat)*(q:Rat)+(lq:Rat):=by rw[ei];exact_mod_cast hbig
   unfold iu;grind
  obtain⟨k,hk⟩:∃k:Int,k=(((most:Rat)-(lq:Rat))/(q:Rat)).floor:=⟨_,rfl⟩;obtain⟨b1,b2,b3,b4⟩:=CG h1 hc hbig hk;have hq0:(q:Rat)≠0:=by
   have:(0:Rat)<(q:Rat):=by exact_mod_cast (by omega:(0:Int)<q)
   grind
  have u1:=rz (most:Rat) (lq:Rat);have u2:=oA ((most:Rat)-(lq:Rat)) (q:Rat);have u3:=yj (((most:Rat)-(lq:Rat))/(q:Rat));have f1:kH (most:Rat) (lq:Rat)=some ((most:Rat)-(lq:Rat)):=aG ⟨by unfold dv;omega,by unfold dv;omega⟩;have f2:gR ((most:Rat)-(lq:Rat)) (q:Rat)=some (((most:Rat)-(lq:Rat))/(q:Rat)):=aG ⟨hq0,by unfold dv;omega,by unfold dv;omega⟩;have f3:qm (((most:Rat)-(lq:Rat))/(q:Rat))=some (k:Rat):=by rw[hk];exact aG (by unfold dv;omega)
  rw[←hk]at u3;have u4:=gQ (k:Rat) (p:Rat);have u5:=nD ((k:Rat)*(p:Rat)) (lp:Rat);have u6:=gQ (k:Rat) (q:Rat);have u7:=nD ((k:Rat)*(q:Rat)) (lq:Rat);have f4:eJ (k:Rat) (p:Rat)=some ((k:Rat)*(p:Rat)):=aG ⟨by unfold dv;omega,by unfold dv;omega⟩;have f5:j0 ((k:Rat)*(p:Rat)) (lp:Rat)=some ((k:Rat)*(p:Rat)+(lp:Rat)):=aG ⟨by unfold dv;omega,by unfold dv;omega⟩;have f6:eJ (k:Rat) (q:Rat)=some ((k:Rat)*(q:Rat)):=aG ⟨by unfold dv;omega,by unfold dv;omega⟩;have f7:j0 ((k:Rat)*(q:Rat)) (lq:Rat)=some ((k:Rat)*(q:Rat)+(lq:Rat)):=aG ⟨by unfold dv;omega,by unfold dv;omega⟩;refine⟨(t,.done ((k:Rat)*(p:Rat)+(lp:Rat),(k:Rat)*(q:Rat)+(lq:Rat),(p:Rat),(q:Rat))),?_,?_⟩
  ·simp only[hcq,f1,f2,f3,f4,f5,f6,f7,Option.bind_some];rfl
  ·have ex:(k:Rat)*(p:Rat)+(lp:Rat)=((k*p+lp:Int):Rat):=by simp
   have ed:(k:Rat)*(q:Rat)+(lq:Rat)=((k*q+lq:Int):Rat):=by simp
   have hd0:((k*q+lq:Int):Rat)≠0:=by
    have:(0:Rat)<((k*q+lq:Int):Rat):=by exact_mod_cast (by omega:(0:Int)<k*q+lq)
    grind
   refine⟨?_,hq0,?_,?_,?_,?_,?_⟩<;>simp only[Ns.fin]
   ·rw[ed];exact hd0
   ·omega
   ·omega
   ·omega
   ·omega
   ·rw[ex,ed];exact b4
 ·left
  have hcq:(decide (iu ((t.floor:Rat)*(q:Rat)+(lq:Rat)) (most:Rat)>0))=false:=by
   have:(t.floor:Rat)*(q:Rat)+(lq:Rat)<=(most:Rat):=by rw[ei];exact_mod_cast (by omega:t.floor*q+lq<=most)
   rw[decide_eq_false_iff_not];unfold iu;grind
  have hle:t.floor*q+lq<=most:=by omega
  have hne:t-(t.floor:Rat)≠0:=fun e=>by
   have:=Gm hc hle e;omega
  obtain⟨d1,d2⟩:=De t hne;have hcn:=Fo hc hle hne;have hq1:1<=t.floor*q+lq:=by
   rcases hcn.one with⟨e,_⟩|⟨e,_⟩
   ·exfalso
    rcases hc.one with⟨e1,e2⟩|⟨e1,e2⟩
    ·rw[e1,e2]at e;omega
    ·have h3:1<=t.floor:=Rat.le_floor_iff.2 (by simpa using e2);have h4:1*q<=t.floor*q:=Int.mul_le_mul_of_nonneg_right h3 hc.hq;have:=hc.B6;omega
   ·exact e
  have hpn:=IQ hm (IP hcn hq1);have u1:=gQ (t.floor:Rat) (p:Rat);have u2:=nD ((t.floor:Rat)*(p:Rat)) (lp:Rat);have u3:=rz t (t.floor:Rat);have f1:eJ (t.floor:Rat) (p:Rat)=some ((t.floor:Rat)*(p:Rat)):=aG ⟨by unfold dv;omega,by unfold dv;omega⟩;have f2:j0 ((t.floor:Rat)*(p:Rat)) (lp:Rat)=some ((t.floor:Rat)*(p:Rat)+(lp:Rat)):=aG ⟨by unfold dv;omega,by unfold dv;omega⟩;have f3:kH t (t.floor:Rat)=some (t-(t.floor:Rat)):=aG ⟨qt,by unfold dv;omega⟩;have f4:fm (t-(t.floor:Rat))=some 1:=by
   have:=Rat.floor_le t;show some (Be _)=_;unfold Be;grind
  have f5:fh 1=some 1:=by decide+kernel
  have f6:gR 1 (t-(t.floor:Rat))=some (1/(t-(t.floor:Rat))):=aG ⟨hne,by decide,by unfold dv;omega⟩;refine⟨(1/(t-(t.floor:Rat)),((t.floor:Rat)*(p:Rat)+(lp:Rat),(t.floor:Rat)*(q:Rat)+(lq:Rat),(p:Rat),(q:Rat))),?_,⟨t.floor*p+lp,t.floor*q+lq,p,q,by simp,hcn,Nat.le_trans d2 ht,hpn,hp⟩,d1⟩;simp only[hcq,f1,f2,f3,f4,f5,f6,Option.bind_some,Bool.false_eq_true,if_false]
  rfl
theorem CJ(a:Rat){n:Nat}(h:a.den<=n):zG a n a:=⟨h,fun y _=>by
 by_cases e:y=a
 ·subst e;exact pr _ _
 ·have:a-a=0:=by grind
  unfold better ja;rw[this]
  grind⟩
theorem EW(a:Rat)(most:Int)(ha:sz a<=10000000000)(hm:eM most):wJ a most=some (if most<1 then(0,3)else(ni a most.toNat,0)):=by
 unfold wJ;by_cases c1:most<1
 ·rw[if_pos (decide_eq_true c1),if_pos c1]
 rw[if_neg (by simpa using c1),if_neg c1];have qa:dv a:=Nat.le_trans ha (by omega);have hmm:=pX (show 0<=most by omega) (Int.le_refl most) hm;have sd:=zw a;have e1:uD a=some (a.den:Rat):=aG qa;have e2:fh most=some (most:Rat):=aG hm;have e3:kK ((a.den:Nat):Rat) (most:Rat)=some (iu ((a.den:Nat):Rat) (most:Rat)):=aG ⟨by unfold dv;omega,by unfold dv;omega⟩;have e4:fh 1=some 1:=by decide+kernel
 have e5:fh 0=some 0:=by decide+kernel
 simp only[e1,e2,e3,e4,e5,Option.bind_some];have hcast:((a.den:Nat):Rat)=(((a.den:Nat):Int):Rat):=rfl;by_cases c2:(a.den:Int)<=most
 ·have:(decide (iu ((a.den:Nat):Rat) (most:Rat)<=0))=true:=by
   have:(((a.den:Nat):Int):Rat)<=(most:Rat):=by exact_mod_cast c2
   rw[decide_eq_true_eq,hcast];unfold iu;grind
  rw[if_pos this];have:=vQ (CJ a (n:=most.toNat) (by omega)) (sT a most.toNat (by omega));rw[←this]
 ·have:¬(decide (iu ((a.den:Nat):Rat) (most:Rat)<=0))=true:=by
   have:(most:Rat)<(((a.den:Nat):Int):Rat):=by exact_mod_cast (by omega:most<((a.den:Nat):Int))
   rw[decide_eq_true_eq,hcast];unfold iu;grind
  rw[if_neg this];obtain⟨r,hr,g1,g2,g3,g4,g5,g6,g7⟩:=BI a most ha hm (by omega) (by omega);rw[hr];simp only[Option.bind_some];generalize Ns.fin r.2=s at*;obtain⟨p,q,lp,lq⟩:=s;simp only at g1 g2 g3 g4 g5 g6 g7|-;have f1:gR p q=some (p/q):=aG ⟨g1,by unfold dv;omega,by unfold dv;omega⟩;have f2:gR lp lq=some (lp/lq):=aG ⟨g2,by unfold dv;omega,by unfold dv;omega⟩;have s1:=oA p q;have s2:=oA lp lq;obtain⟨z,hz,k1,k2,k3⟩:=Bp a (p/q) (lp/lq) (by omega) (by omega) (by omega);rw[f1];simp only[Option.bind_some];rw[f2];simp only[Option.bind_some];rw[hz];have:=vQ (g7 z k1 k2 k3) (sT a most.toNat (by omega));simp only[Option.bind_some];rw[this]
def Ce(a:Rat)(most:Int):Option (Rat×Int):=bO (sz a<=10000000000/\eM most) (some (if most<1 then(0,3)else(ni a most.toNat,0)))
theorem GF{a1:Rat}{a2:Int}{r3:Rat}{r4:Int}(h:Ce a1 a2=some (r3,r4)):aW PP 28 [] [qD a1,D.int .i64 a2] [] (D.gV [qD r3,D.int .i64 r4]):=by
 obtain⟨⟨h1,h2⟩,h⟩:=ax h;have e:=EW a1 a2 h1 h2;rw[h]at e;exact Gh e
end Go.Am
namespace Go.Am
end Go.Am
namespace Go.Am
open Go.RowKit
set_option maxRecDepth 100000
noncomputable section
def zJ(a1:Rat):Option (Rat×Rat):=(eJ a1 a1).bind fun v2=>(fh 1).bind fun v4=>(j0 v4 v2).bind fun v6=>(fh 1).bind fun v8=>(kH v8 v2).bind fun v10=>(gR v10 v6).bind fun v12=>(j0 a1 a1).bind fun v14=>(gR v14 v6).bind fun v16=>some (v12,v16)
theorem Hd{a1:Rat}{r18:Rat}{r19:Rat}(h:zJ a1=some (r18,r19)):aW PP 61 [] [qD a1] [] (D.agg (qC (r18)++qC (r19))):=by
 unfold zJ at h;refine .of Go.Proofs.Tryz.func61 rfl (by kernel_rfl) rfl rfl rfl rfl rfl rfl (fun A w0 L b=>?_);show Ok PP _ [(0,qD a1)] [] _ _;refine .al (.j8 rfl rfl<|.fW (qC (0)++qC (0)) nN ⟨k8,k_,kZ,k8,k_,kZ,trivial⟩ rfl<|.nil) rfl ?_;obtain⟨v2,e3,h⟩:=bind_some h;refine .al (.cb (qC (a1)) rfl rfl aa rfl rfl<|.cb (qC (a1)) rfl rfl aa rfl rfl<|.ah (lA e3) ⟨rfl,rfl,trivial⟩ trivial trivial<|.fW (qC (0)) az ⟨k8,k_,kZ,trivial⟩ rfl<|.cH (qC (v2)) rfl rfl rfl aa rfl rfl rfl<|.nil) rfl ?_;obtain⟨v4,e5,h⟩:=bind_some h;obtain⟨v6,e7,h⟩:=bind_some h;refine .dh cn (.ah (i5 e5) ⟨rfl,trivial⟩ trivial trivial<|.cb (qC (v2)) rfl rfl aa rfl rfl<|.ah (oU e7) ⟨rfl,rfl,trivial⟩ trivial trivial<|.fW (qC (0)) az ⟨k8,k_,kZ,trivial⟩ rfl<|.cH (qC (v6)) rfl rfl rfl aa rfl rfl rfl<|.nil) rfl (by kernel_rfl) ?_;obtain⟨v8,e9,h⟩:=bind_some h;obtain⟨v10,e11,h⟩:=bind_some h;obtain⟨v12,e13,h⟩:=bind_some h;obtain⟨v14,e15,h⟩:=bind_some h;obtain⟨v16,e17,h⟩:=bind_some h;refine .dh cn (.ah (i5 e9) ⟨rfl,trivial⟩ trivial trivial<|.cb (qC (v2)) rfl rfl aa rfl rfl<|.ah (tK e11) ⟨rfl,rfl,trivial⟩ trivial trivial<|.cb (qC (v6)) rfl rfl aa rfl rfl<|.ah (nX e13) ⟨rfl,rfl,trivial⟩ trivial trivial<|.cb (qC (a1)) rfl rfl aa rfl rfl<|.cb (qC (a1)) rfl rfl aa rfl rfl<|.ah (oU e15) ⟨rfl,rfl,trivial⟩ trivial trivial<|.cb (qC (v6)) rfl rfl aa rfl rfl<|.ah (nX e17) ⟨rfl,rfl,trivial⟩ trivial trivial<|.pC (qC (v12)++qC (v16)) [(0,_,qD v12,qC (v12)),(3,_,qD v16,qC (v16))] nN wh ⟨rfl,rfl,.agg _,rfl,rfl,rfl,.agg _,rfl,trivial⟩ ⟨rfl,rfl,trivial⟩ ⟨.refl _,.refl _,.refl _,.refl _,.refl _,.refl _,trivial⟩<|.cH (qC (v12)++qC (v16)) rfl rfl rfl m3 rfl rfl rfl<|.nil) rfl (by kernel_rfl) ?_;cases h;refine .aN (fun _ _ hb=>hb) rfl (.cons (.agg rfl rfl m3 rfl) .nil) (.refl _) trivial trivial
def iV(a1:List Rat)(a2:List Rat)(v5:Int)(v6:Rat):Option (St (Int×Rat) Rat):=(if(decide (v5<(a1.length:Int)))=true then(ix a1 v5).bind fun v12=>(ix a2 v5).bind fun v14=>(eJ v12 v14).bind fun v16=>(j0 v6 v16).bind fun v18=>some (St.next ((IntKind.i64.wrap (v5+1)),v18))else some (St.done v6))
def uo(a1:List Rat)(a2:List Rat):Option Rat:=((Loop (fun(s:Int×Rat)=>iV a1 a2 s.1 s.2) (0,0)).bind fun v20=>some (v20)).bind fun v21=>some v21
theorem FL{a1:List Rat}{a2:List Rat}{r22:Rat}(h:uo a1 a2=some r22):aW PP 196 [] [an ak.rat a1,an ak.rat a2] [] (qD r22):=by
 unfold uo at h;refine .of Go.Proofs.Tryz.func196 rfl (by kernel_rfl) rfl rfl rfl rfl rfl rfl (fun A w0 L b=>?_);show Ok PP _ [(0,an ak.rat a1),(1,an ak.rat a2)] [] _ _;refine .al (.fW (qC (0)) az ⟨k8,k_,kZ,trivial⟩ rfl<|.nil) rfl ?_;refine .al (.fW (qC (0)) az ⟨k8,k_,kZ,trivial⟩ rfl<|.nil) rfl ?_;obtain⟨v21,hp4,h⟩:=bind_some h;refine .cz (fun i=>v21=i) (fun(i:Rat)=>[(4,D.ref 4 0),(5,D.ref 5 0)]) (fun(i:Rat)=>[(4,Hp.box 28 (qC (0))),(5,Hp.box 28 (qC (i)))]) ?_ ?_
 ·have ho1:=h;have h:=hp4;refine .al (.mv rfl<|.fU rfl cr<|.mv rfl<|.nil) rfl ?_;obtain⟨o7,hl8,h⟩:=bind_some h;have ho2:=h;refine .block (.cc (fun(s:Int×Rat)=>[(1,an ak.rat a2),(4,D.ref 4 0),(5,D.ref 5 0),(8,an ak.rat a1),(9,D.int .i64 (a1.length:Int)),(10,D.int .i64 s.1)]) (fun(s:Int×Rat)=>[(4,Hp.box 28 (qC (0))),(5,Hp.box 28 (qC (s.2)))]) hl8 (.of rfl) (.of rfl) rfl rfl ?_);rintro⟨v5,v6⟩ st9 hb10;have h:iV a1 a2 v5 v6=some st9:=hb10;unfold iV at h
  try dsimp only
  refine .al (.cm rfl rfl rfl<|.nil) rfl ?_;refine .sq ?_;by_cases c11:(decide (v5<(a1.length:Int)))=true
  ·replace h:=ab c11 h;refine .cq rfl c11 ?_;refine .skip (Ok.on ?_);refine .sq ?_;refine .block ?_;obtain⟨v12,e13,h⟩:=bind_some h;refine .al (.mv rfl<|.kX rfl rfl aT (ag e13).1 (ag e13).2<|.zU (l:=qC (v12)) rfl aa rfl<|.fW (qC (0)) az ⟨k8,k_,kZ,trivial⟩ rfl<|.ao rfl<|.cH (qC (v12)) rfl rfl rfl aa rfl rfl rfl<|.nil) rfl ?_;obtain⟨v14,e15,h⟩:=bind_some h;obtain⟨v16,e17,h⟩:=bind_some h;obtain⟨v18,e19,h⟩:=bind_some h;refine .de cn (.cb (qC (v6)) rfl rfl aa rfl rfl<|.cb (qC (v12)) rfl rfl aa rfl rfl<|.mv rfl<|.mv rfl<|.kX rfl rfl aT (ag e15).1 (ag e15).2<|.zU (l:=qC (v14)) rfl aa rfl<|.ah (lA e17) ⟨rfl,rfl,trivial⟩ trivial trivial<|.ah (oU e19) ⟨rfl,rfl,trivial⟩ trivial trivial<|.cH (qC (v18)) rfl rfl rfl aa rfl rfl rfl<|.nil) rfl (by kernel_rfl) (Ok.on ?_);refine .region (.ar rfl rfl rfl<|.mv rfl<|.nil) rfl (fun _ _ hs=>⟨((IntKind.i64.wrap (v5+1)),v18),(sj h),hs.sub (.of rfl) (.of rfl) rfl rfl⟩)
  ·replace h:=ae c11 h;refine .cA rfl c11 ?_;refine .exit (fun a w hs=>⟨_,(sj h),fun e=>by subst e;have h:=ho2;exact aZ (⟨v6,(sj h),hs.sub (.of rfl) (.of rfl) rfl rfl⟩)⟩)
 ·rintro _ rfl
  try dsimp only
  refine .al (.cb (qC (v21)) rfl rfl aa rfl rfl<|.cH (qC (v21)) rfl rfl rfl aa rfl rfl rfl<|.nil) rfl ?_;cases h;refine .aN (fun _ _ hb=>hb) rfl (.cons (.agg rfl rfl aa rfl) .nil) (.refl _) trivial trivial
end
end Go.Am
namespace Go.Am
open Go.RowKit
set_option maxRecDepth 100000
noncomputable section
def oT(a1:List Rat)(a2:List Rat)(v5:Int)(v6:Rat):Option (St (Int×Rat) Rat):=(if(decide (v5<(a1.length:Int)))=true then(ix a1 v5).bind fun v12=>(ix a2 v5).bind fun v14=>(eJ v12 v14).bind fun v16=>(j0 v6 v16).bind fun v18=>some (St.next ((IntKind.i64.wrap (v5+1)),v18))else some (St.done v6))
def mM(a1:List Rat)(a2:List Rat):Option Rat:=((Loop (fun(s:Int×Rat)=>oT a1 a2 s.1 s.2) (0,0)).bind fun v20=>some (v20)).bind fun v21=>some v21
end
end Go.Am
namespace Go.Am
open Go.RowKit
set_option maxRecDepth 100000
noncomputable section
def jO(a3:Int)(v8:Rat)(v11:Rat)(v15:Int)(v16:Rat)(v17:Rat):Option (St (Int×Rat×Rat) (Rat×Rat)):=(if(decide (v15<(Int.tmod a3 4)))=true then(eJ v16 v8).bind fun v23=>(eJ v17 v11).bind fun v25=>some (St.next ((IntKind.u8.wrap (v15+1)),v23,v25))else some (St.done (v16,v17)))
def lZ(a1:Int)(a2:Int)(a3:Int):Option (Rat×Rat):=((if(a2==0)=true then some (1)else some (a2))).bind fun v7=>(Ei a1 v7).bind fun(v8,v9)=>(Eh a1 v7).bind fun v11=>((Loop (fun(s:Int×Rat×Rat)=>jO a3 v8 v11 s.1 s.2.1 s.2.2) (0,v8,v11)).bind fun(v27,v28)=>some ((v27,v28))).bind fun(v29,v30)=>some (v29,v30)
theorem yd{a1:Int}{a2:Int}{a3:Int}{r31:Rat}{r32:Rat}(h:lZ a1 a2 a3=some (r31,r32)):aW PP 27 [] [D.agg ([D.int .i64 a1,D.int .i64 a2,D.int .u8 a3])] [] (D.gV [qD r31,D_ r32]):=by
 unfold lZ at h;refine .of Go.Proofs.Tryz.func27 rfl (by kernel_rfl) rfl rfl rfl rfl rfl rfl (fun A w0 L b=>?_);show Ok PP _ [(0,D.agg ([D.int .i64 a1,D.int .i64 a2,D.int .u8 a3]))] [] _ _;refine .al (.j8 rfl rfl<|.fW (qC (0)) az ⟨k8,k_,kZ,trivial⟩ rfl<|.fW (rX (0)) cV ⟨Ih,Ic,.refl _,HJ,trivial⟩ rfl<|.nil) rfl ?_;obtain⟨v7,hp5,h⟩:=bind_some h;refine .cz (fun i=>v7=i) (fun(i:Int)=>[(1,D.ref 1 0),(2,D.ref 2 0),(3,D.ref 3 0)]) (fun(i:Int)=>[(1,Hp.box 43 ([D.int .i64 a1,D.int .i64 i,D.int .u8 a3])),(2,Hp.box 28 (qC (0))),(3,Hp.box 37 (rX (0)))]) ?_ ?_
 ·have ho1:=h;have h:=hp5;refine .al (.fa rfl fw<|.bA (D.int .i64 a2) rfl rfl gX rfl<|.cm rfl rfl rfl<|.nil) rfl ?_;by_cases c6:(a2==0)=true
  ·replace h:=ab c6 h;refine .cq rfl c6 ?_;refine .region (.fa rfl fw<|.zi ([D.int .i64 a1,D.int .i64 1,D.int .u8 a3]) rfl rfl rfl gX rfl rfl rfl<|.nil) rfl (fun _ _ hs=>⟨1,(sj h),hs.sub (.of rfl) (.of rfl) rfl rfl⟩)
  ·replace h:=ae c6 h;refine .cA rfl c6 ?_;refine .skip (fun _ _ hs=>⟨a2,(sj h),hs.sub (.of rfl) (.of rfl) rfl rfl⟩)
 ·rintro _ rfl
  try dsimp only
  obtain⟨⟨v8,v9⟩,e10,h⟩:=bind_some h;refine .al (.fa rfl kL<|.bA (D.int .i64 a1) rfl rfl gX rfl<|.fa rfl fw<|.bA (D.int .i64 v7) rfl rfl gX rfl<|.ah (IK e10) ⟨rfl,rfl,trivial⟩ trivial trivial<|.mv rfl<|.ext rfl rfl<|.ext rfl rfl<|.fW (qC (0)) az ⟨k8,k_,kZ,trivial⟩ rfl<|.cH (qC (v8)) rfl rfl rfl aa rfl rfl rfl<|.ao rfl<|.nil) rfl ?_;obtain⟨v11,e12,h⟩:=bind_some h;refine .al (.fa rfl kL<|.bA (D.int .i64 a1) rfl rfl gX rfl<|.fa rfl fw<|.bA (D.int .i64 v7) rfl rfl gX rfl<|.ah (Iu e12) ⟨rfl,rfl,trivial⟩ trivial trivial<|.fW (rX (0)) cV ⟨Ih,Ic,.refl _,HJ,trivial⟩ rfl<|.cH (rX (v11)) rfl rfl rfl aX rfl rfl rfl<|.nil) rfl ?_;refine .dh cn (.cb (qC (v8)) rfl rfl aa rfl rfl<|.cb (rX (v11)) rfl rfl aX rfl rfl<|.fW (qC (0)) az ⟨k8,k_,kZ,trivial⟩ rfl<|.fW (rX (0)) cV ⟨Ih,Ic,.refl _,HJ,trivial⟩ rfl<|.cH (qC (v8)) rfl rfl rfl aa rfl rfl rfl<|.cH (rX (v11)) rfl rfl rfl aX rfl rfl rfl<|.nil) rfl (by kernel_rfl) ?_;obtain⟨o13,hp14,h⟩:=bind_some h;refine .cz (fun i=>o13=i) (fun(i:Rat×Rat)=>[(2,D.ref 2 0),(3,D.ref 3 0),(7,D.ref 7 0),(8,D.ref 8 0)]) (fun(i:Rat×Rat)=>[(2,Hp.box 28 (qC (0))),(3,Hp.box 37 (rX (0))),(7,Hp.box 28 (qC (i.1))),(8,Hp.box 37 (rX (i.2)))]) ?_ ?_
  ·have ho1:=h;have h:=hp14;refine .al (.ao rfl<|.nil) rfl ?_;obtain⟨o18,hl19,h⟩:=bind_some h;have ho2:=h;refine .block (.cc (fun(s:Int×Rat×Rat)=>[(1,D.ref 1 0),(2,D.ref 2 0),(3,D.ref 3 0),(4,D.ref 4 0),(6,D.ref 6 0),(7,D.ref 7 0),(8,D.ref 8 0),(9,D.int .u8 s.1)]) (fun(s:Int×Rat×Rat)=>[(1,Hp.box 43 ([D.int .i64 a1,D.int .i64 v7,D.int .u8 a3])),(2,Hp.box 28 (qC (0))),(3,Hp.box 37 (rX (0))),(4,Hp.box 28 (qC (v8))),(6,Hp.box 37 (rX (v11))),(7,Hp.box 28 (qC (s.2.1))),(8,Hp.box 37 (rX (s.2.2)))]) hl19 (.of rfl) (.of rfl) rfl rfl ?_);rintro⟨v15,v16,v17⟩ st20 hb21;have h:jO a3 v8 v11 v15 v16 v17=some st20:=hb21;unfold jO at h
   try dsimp only
   refine .sq ?_;refine .al (.mv rfl<|.fa rfl py<|.bA (D.int .u8 a3) rfl rfl nB rfl<|.ar rfl rfl (A9 (by decide))<|.cm rfl rfl rfl<|.nil) rfl ?_;by_cases c22:(decide (v15<(Int.tmod a3 4)))=true
   ·replace h:=ab c22 h;refine .cq rfl c22 ?_;refine .skip (Ok.on ?_);refine .sq ?_;refine .block ?_;obtain⟨v23,e24,h⟩:=bind_some h;refine .al (.cb (qC (v16)) rfl rfl aa rfl rfl<|.cb (qC (v8)) rfl rfl aa rfl rfl<|.ah (lA e24) ⟨rfl,rfl,trivial⟩ trivial trivial<|.cH (qC (v23)) rfl rfl rfl aa rfl rfl rfl<|.nil) rfl ?_;obtain⟨v25,e26,h⟩:=bind_some h;refine .region (.cb (rX (v17)) rfl rfl aX rfl rfl<|.cb (rX (v11)) rfl rfl aX rfl rfl<|.ah (H8 e26) ⟨rfl,rfl,trivial⟩ trivial trivial<|.cH (rX (v25)) rfl rfl rfl aX rfl rfl rfl<|.nil) rfl (Ok.on ?_);refine .region (.mv rfl<|.ar rfl rfl rfl<|.ao rfl<|.nil) rfl (fun _ _ hs=>⟨((IntKind.u8.wrap (v15+1)),v23,v25),(sj h),hs.sub (.of rfl) (.of rfl) rfl rfl⟩)
   ·replace h:=ae c22 h;refine .cA rfl c22 ?_;refine .exit (fun a w hs=>⟨_,(sj h),fun e=>by subst e;have h:=ho2;exact aZ (⟨(v16,v17),(sj h),hs.sub (.of rfl) (.of rfl) rfl rfl⟩)⟩)
  ·rintro⟨v29,v30⟩ rfl
   try dsimp only
   refine .dh cn (.cb (qC (v29)) rfl rfl aa rfl rfl<|.cb (rX (v30)) rfl rfl aX rfl rfl<|.cH (qC (v29)) rfl rfl rfl aa rfl rfl rfl<|.cH (rX (v30)) rfl rfl rfl aX rfl rfl rfl<|.nil) rfl (by kernel_rfl) ?_;cases h;refine .aN (fun _ _ hb=>hb) rfl (.cons (.agg rfl rfl aa rfl) (.cons (.agg rfl rfl aX rfl) .nil)) (.refl _) trivial trivial
def jZ(a1:List (Int×Int×Int))(v4:Int)(v5:List Rat)(v6:List Rat):Option (St (Int×(List Rat)×(List Rat)) ((List Rat)×(List Rat))):=(if(decide (v4<(a1.length:Int)))=true then(ix a1 v4).bind fun(v12,v13,v14)=>(lZ v12 v13 v14).bind fun(v16,v17)=>bO ((v5.length+([v16]).length)*56<=140737488355328/\v5.length+([v16]).length<=9223372036854775807) (bO ((v6.length+([v17]).length)*64<=140737488355328/\v6.length+([v17]).length<=9223372036854775807) (some (St.next ((IntKind.i64.wrap (v4+1)),(v5++[v16]),(v6++[v17])))))else some (St.done (v5,v6)))
def mg(a1:List (Int×Int×Int)):Option ((List Rat)×(List Rat)):=((Loop (fun(s:Int×(List Rat)×(List Rat))=>jZ a1 s.1 s.2.1 s.2.2) (0,[],[])).bind fun(v21,v22)=>some ((v21,v22))).bind fun(v23,v24)=>some (v23,v24)
theorem yB{a1:List (Int×Int×Int)}{r25:List Rat}{r26:List Rat}(h:mg a1=some (r25,r26)):aW PP 53 [] [an (ak.prod (ak.int .i64) (ak.prod (ak.int .i64) (ak.int .u8))) a1] [] (D.gV [an ak.rat r25,an ak.rq r26]):=by
 unfold mg at h;refine .of Go.Proofs.Tryz.func53 rfl (by kernel_rfl) rfl rfl rfl rfl rfl rfl (fun A w0 L b=>?_);show Ok PP _ [(0,an (ak.prod (ak.int .i64) (ak.prod (ak.int .i64) (ak.int .u8))) a1)] [] _ _;refine .al (.ao rfl<|.ao rfl<|.nil) rfl ?_;refine .al (.ao rfl<|.nil) rfl ?_;refine .al (.ao rfl<|.nil) rfl ?_;obtain⟨o2,hp3,h⟩:=bind_some h;refine .cz (fun i=>o2=i) (fun(i:(List Rat)×(List Rat))=>[(4,D.own 2000004),(5,D.own 2000005)]) (fun(i:(List Rat)×(List Rat))=>[(2000004,aR ak.rat 28 i.1),(2000005,aR ak.rq 37 i.2)]) ?_ ?_
 ·have ho1:=h;have h:=hp3;refine .al (.ao rfl<|.nil) rfl ?_;refine .gT ak.rat 4 2000004 28 rfl rfl ?_;refine .gT ak.rq 5 2000005 37 rfl rfl ?_;obtain⟨o7,hl8,h⟩:=bind_some h;have ho2:=h;refine .block (.cc (fun(s:Int×(List Rat)×(List Rat))=>[(0,an (ak.prod (ak.int .i64) (ak.prod (ak.int .i64) (ak.int .u8))) a1),(4,D.own 2000004),(5,D.own 2000005),(6,D.int .i64 s.1)]) (fun(s:Int×(List Rat)×(List Rat))=>[(2000004,aR ak.rat 28 s.2.1),(2000005,aR ak.rq 37 s.2.2)]) hl8 (.of rfl) (.of rfl) rfl rfl ?_);rintro⟨v4,v5,v6⟩ st9 hb10;have h:jZ a1 v4 v5 v6=some st9:=hb10;unfold jZ at h
  try dsimp only
  refine .sq ?_;refine .al (.mv rfl<|.mv rfl<|.fU rfl ik<|.cm rfl rfl rfl<|.nil) rfl ?_;by_cases c11:(decide (v4<(a1.length:Int)))=true
  ·replace h:=ab c11 h;refine .cq rfl c11 ?_;refine .skip (Ok.on ?_);refine .sq ?_;refine .block ?_;obtain⟨⟨v12,v13,v14⟩,e15,h⟩:=bind_some h;obtain⟨⟨v16,v17⟩,e18,h⟩:=bind_some h;refine .al (.mv rfl<|.mv rfl<|.kX rfl rfl pq (ag e15).1 (ag e15).2<|.zU (l:=[D.int .i64 v12,D.int .i64 v13,D.int .u8 v14]) rfl lF rfl<|.ah (yd e18) ⟨rfl,trivial⟩ trivial trivial<|.mv rfl<|.ext rfl rfl<|.ext rfl rfl<|.fW (qC (0)) az ⟨k8,k_,kZ,trivial⟩ rfl<|.fW (rX (0)) cV ⟨Ih,Ic,.refl _,HJ,trivial⟩ rfl<|.cH (qC (v16)) rfl rfl rfl aa rfl rfl rfl<|.cH (rX (v17)) rfl rfl rfl aX rfl rfl rfl<|.nil) rfl ?_;refine .sl 4 rfl rfl rfl ?_;obtain⟨k19,h⟩:=ax h;refine .al (.mv rfl<|.cb (qC (v16)) rfl rfl aa rfl rfl<|.yO (e:=ak.rat) [v16] [(0,_,qD v16,qC (v16))] bM rfl rfl rfl ⟨rfl,rfl,.agg _,rfl,trivial⟩ ⟨rfl,trivial⟩ rfl rfl<|.xi (ys:=[v16]) rfl .sl rfl (.refl _) rfl bM rfl k19.1 k19.2 rfl<|.ao rfl<|.nil) rfl ?_;refine .sl 5 rfl rfl rfl ?_;obtain⟨k20,h⟩:=ax h;refine .region (.mv rfl<|.cb (rX (v17)) rfl rfl aX rfl rfl<|.yO (e:=ak.rq) [v17] [(0,_,D_ v17,rX (v17))] lW rfl rfl rfl ⟨rfl,rfl,.agg _,rfl,trivial⟩ ⟨rfl,trivial⟩ rfl rfl<|.xi (ys:=[v17]) rfl .sl rfl (.refl _) rfl lW rfl k20.1 k20.2 rfl<|.ao rfl<|.nil) rfl (Ok.on ?_);refine .region (.mv rfl<|.ar rfl rfl rfl<|.ao rfl<|.nil) rfl (fun _ _ hs=>⟨((IntKind.i64.wrap (v4+1)),(v5++[v16]),(v6++[v17])),(sj h),hs.l7 (fun r=>match r with|2000004=>26|2000005=>30|r=>r) (.r rfl rfl<|.p rfl (.own (r:=2000004))<|.p rfl (.own (r:=2000005))<|.r rfl rfl<|trivial) (.r rfl rfl<|.r rfl rfl<|trivial) rfl rfl rfl⟩)
  ·replace h:=ae c11 h;refine .cA rfl c11 ?_;refine .exit (fun a w hs=>⟨_,(sj h),fun e=>by subst e;have h:=ho2;exact aZ (⟨(v5,v6),(sj h),hs.sub (.of rfl) (.of rfl) rfl rfl⟩)⟩)
 ·rintro⟨v23,v24⟩ rfl
  try dsimp only
  refine .sl 4 rfl rfl rfl ?_;refine .sl 5 rfl rfl rfl ?_;refine .al (.mv rfl<|.mv rfl<|.ao rfl<|.ao rfl<|.nil) rfl ?_;refine .uF 2 (.own 2000004) rfl .sl ?_;refine .j9 2 rfl rfl rfl ?_;refine .uF 3 (.own 2000005) rfl .sl ?_;refine .j9 3 rfl rfl rfl ?_;cases h;refine .aN (fun _ _ hb=>hb) rfl (.cons (.tmp rfl) (.t1 (.tmp rfl))) (.refl _) trivial trivial
def sB(a1:List UInt8):Option Rat:=(sF a1).bind fun(v2,v3)=>some v2
theorem Ap{a1:List UInt8}{r5:Rat}(h:sB a1=some r5):aW PP 100 [] [cf a1] [] (qD r5):=by
 unfold sB at h;refine .of Go.Proofs.Tryz.func100 rfl (by kernel_rfl) rfl rfl rfl rfl rfl rfl (fun A w0 L b=>?_);show Ok PP _ [(0,cf a1)] [] _ _;refine .al (.fW (qC (0)) az ⟨k8,k_,kZ,trivial⟩ rfl<|.nil) rfl ?_;obtain⟨⟨v2,v3⟩,e4,h⟩:=bind_some h;refine .al (.mv rfl<|.ah (w7 e4) ⟨rfl,trivial⟩ trivial trivial<|.mv rfl<|.ext rfl rfl<|.ext rfl rfl<|.fW (qC (0)) az ⟨k8,k_,kZ,trivial⟩ rfl<|.cH (qC (v2)) rfl rfl rfl aa rfl rfl rfl<|.ao rfl<|.nil) rfl ?_;refine .al (.cb (qC (v2)) rfl rfl aa rfl rfl<|.cH (qC (v2)) rfl rfl rfl aa rfl rfl rfl<|.nil) rfl ?_;cases h;refine .aN (fun _ _ hb=>hb) rfl (.cons (.agg rfl rfl aa rfl) .nil) (.refl _) trivial trivial
def lM(a1:Rat)(a2:List UInt8):Option Bool:=(ts a1).bind fun v3=>some (v3==a2)
theorem cC{a1:Rat}{a2:List UInt8}{r5:Bool}(h:lM a1 a2=some r5):aW PP 141 [] [qD a1,cf a2] [] (D.bool r5):=by
 unfold lM at h;refine .of Go.Proofs.Tryz.func141 rfl (by kernel_rfl) rfl rfl rfl rfl rfl rfl (fun A w0 L b=>?_);show Ok PP _ [(0,qD a1),(1,cf a2)] [] _ _;refine .al (.j8 rfl rfl<|.ao rfl<|.nil) rfl ?_;obtain⟨v3,e4,h⟩:=bind_some h;refine .al (.cb (qC (a1)) rfl rfl aa rfl rfl<|.ah (zM e4) ⟨rfl,trivial⟩ trivial trivial<|.mv rfl<|.Hy rfl rfl<|.ao rfl<|.nil) rfl ?_;cases h;refine .aN (fun _ _ hb=>hb) rfl (.t1 (.tmp rfl)) (.refl _) trivial trivial
def iz:Option Bool:=(sF ([45,49,46,50,53,48]:List UInt8)).bind fun(v1,v2)=>(sF ([54,47,52]:List UInt8)).bind fun(v4,v5)=>(sB ([51,53,53,47,49,49,51]:List UInt8)).bind fun v7=>(Ce v7 7).bind fun(v9,v10)=>(fh 2).bind fun v12=>(Cz v12 3).bind fun(v14,v15)=>(sB ([49,47,50]:List UInt8)).bind fun v17=>(zJ v17).bind fun(v19,v20)=>(if(v2==0)=true then(if(v5==0)=true then(if(v10==0)=true then(if(v15==0)=true then(lM v1 ([45,53,47,52]:List UInt8)).bind fun v26=>(if v26=true then(lM v4 ([51,47,50]:List UInt8)).bind fun v29=>(if v29=true then(lM v9 ([50,50,47,55]:List UInt8)).bind fun v32=>(if v32=true then(lM v14 ([49,49,47,56]:List UInt8)).bind fun v35=>(if v35=true then(lM v19 ([51,47,53]:List UInt8)).bind fun v38=>(if v38=true then(lM v20 ([52,47,53]:List UInt8)).bind fun v41=>(if v41=true then(j0 v1 v4).bind fun v44=>(lM v44 ([49,47,52]:List UInt8)).bind fun v46=>(if v46=true then(eJ v1 v4).bind fun v49=>(lM v49 ([45,49,53,47,56]:List UInt8)).bind fun v51=>some v51 else some false)else some false)else some false)else some false)else some false)else some false)else some false)else some false)else some false)else some false)else some false)
theorem mh{r53:Bool}(h:iz=some r53):aW PP 22 [] [] [] (D.bool r53):=by
 unfold iz at h;refine .of Go.Proofs.Tryz.func22 rfl (by kernel_rfl) rfl rfl rfl rfl rfl rfl (fun A w0 L b=>?_);show Ok PP _ [] [] _ _;refine .al (.ao rfl<|.nil) rfl ?_;obtain⟨⟨v1,v2⟩,e3,h⟩:=bind_some h;refine .al (.ah (w7 e3) ⟨rfl,trivial⟩ trivial trivial<|.mv rfl<|.ext rfl rfl<|.ext rfl rfl<|.fW (qC (0)) az ⟨k8,k_,kZ,trivial⟩ rfl<|.cH (qC (v1)) rfl rfl rfl aa rfl rfl rfl<|.ao rfl<|.nil) rfl ?_;obtain⟨⟨v4,v5⟩,e6,h⟩:=bind_some h;refine .al (.ah (w7 e6) ⟨rfl,trivial⟩ trivial trivial<|.mv rfl<|.ext rfl rfl<|.ext rfl rfl<|.fW (qC (0)) az ⟨k8,k_,kZ,trivial⟩ rfl<|.cH (qC (v4)) rfl rfl rfl aa rfl rfl rfl<|.ao rfl<|.nil) rfl ?_;obtain⟨v7,e8,h⟩:=bind_some h;obtain⟨⟨v9,v10⟩,e11,h⟩:=bind_some h;refine .al (.ah (Ap e8) ⟨rfl,trivial⟩ trivial trivial<|.ah (GF e11) ⟨rfl,rfl,trivial⟩ trivial trivial<|.mv rfl<|.ext rfl rfl<|.ext rfl rfl<|.fW (qC (0)) az ⟨k8,k_,kZ,trivial⟩ rfl<|.cH (qC (v9)) rfl rfl rfl aa rfl rfl rfl<|.ao rfl<|.nil) rfl ?_;obtain⟨v12,e13,h⟩:=bind_some h;obtain⟨⟨v14,v15⟩,e16,h⟩:=bind_some h;refine .al (.ah (i5 e13) ⟨rfl,trivial⟩ trivial trivial<|.ah (Gx e16) ⟨rfl,rfl,trivial⟩ trivial trivial<|.mv rfl<|.ext rfl rfl<|.ext rfl rfl<|.fW (qC (0)) az ⟨k8,k_,kZ,trivial⟩ rfl<|.cH (qC (v14)) rfl rfl rfl aa rfl rfl rfl<|.ao rfl<|.nil) rfl ?_;obtain⟨v17,e18,h⟩:=bind_some h;obtain⟨⟨v19,v20⟩,e21,h⟩:=bind_some h;refine .al (.ah (Ap e18) ⟨rfl,trivial⟩ trivial trivial<|.ah (Hd e21) ⟨rfl,trivial⟩ trivial trivial<|.fW (qC (0)++qC (0)) nN ⟨k8,k_,kZ,k8,k_,kZ,trivial⟩ rfl<|.cH (qC (v19)++qC (v20)) rfl rfl rfl m3 rfl rfl rfl<|.nil) rfl ?_;by_cases c22:(v2==0)=true
 ·replace h:=ab c22 h;by_cases c23:(v5==0)=true
  ·replace h:=ab c23 h;by_cases c24:(v10==0)=true
   ·replace h:=ab c24 h;by_cases c25:(v15==0)=true
    ·replace h:=ab c25 h;obtain⟨v26,e27,h⟩:=bind_some h;by_cases c28:v26=true
     ·replace h:=ab c28 h;obtain⟨v29,e30,h⟩:=bind_some h;by_cases c31:v29=true
      ·replace h:=ab c31 h;obtain⟨v32,e33,h⟩:=bind_some h;by_cases c34:v32=true
       ·replace h:=ab c34 h;obtain⟨v35,e36,h⟩:=bind_some h;by_cases c37:v35=true
        ·replace h:=ab c37 h;obtain⟨v38,e39,h⟩:=bind_some h;by_cases c40:v38=true
         ·replace h:=ab c40 h;obtain⟨v41,e42,h⟩:=bind_some h;by_cases c43:v41=true
          ·replace h:=ab c43 h;obtain⟨v44,e45,h⟩:=bind_some h;obtain⟨v46,e47,h⟩:=bind_some h;by_cases c48:v46=true
           ·replace h:=ab c48 h;obtain⟨v49,e50,h⟩:=bind_some h;obtain⟨v51,e52,h⟩:=bind_some h;refine .al (.mv rfl<|.cm rfl rfl rfl<|.mv rfl<|.gy c22<|.mv rfl<|.gy c22<|.cm rfl rfl rfl<|.bm rfl c22 rfl<|.mv rfl<|.gy c23<|.mv rfl<|.gy c23<|.cm rfl rfl rfl<|.bm rfl c23 rfl<|.mv rfl<|.gy c24<|.mv rfl<|.gy c24<|.cm rfl rfl rfl<|.bm rfl c24 rfl<|.mv rfl<|.gy c25<|.cb (qC (v1)) rfl rfl aa rfl rfl<|.gy c25<|.ah (cC e27) ⟨rfl,rfl,trivial⟩ trivial trivial<|.bm rfl c25 rfl<|.mv rfl<|.gy c28<|.cb (qC (v4)) rfl rfl aa rfl rfl<|.gy c28<|.ah (cC e30) ⟨rfl,rfl,trivial⟩ trivial trivial<|.bm rfl c28 rfl<|.mv rfl<|.gy c31<|.cb (qC (v9)) rfl rfl aa rfl rfl<|.gy c31<|.ah (cC e33) ⟨rfl,rfl,trivial⟩ trivial trivial<|.bm rfl c31 rfl<|.mv rfl<|.gy c34<|.cb (qC (v14)) rfl rfl aa rfl rfl<|.gy c34<|.ah (cC e36) ⟨rfl,rfl,trivial⟩ trivial trivial<|.bm rfl c34 rfl<|.mv rfl<|.gy c37<|.fa rfl jD<|.gy c37<|.cb (qC (v19)) rfl rfl aa rfl rfl<|.gy c37<|.ah (cC e39) ⟨rfl,rfl,trivial⟩ trivial trivial<|.bm rfl c37 rfl<|.mv rfl<|.gy c40<|.fa rfl lQ<|.gy c40<|.cb (qC (v20)) rfl rfl aa rfl rfl<|.gy c40<|.ah (cC e42) ⟨rfl,rfl,trivial⟩ trivial trivial<|.bm rfl c40 rfl<|.mv rfl<|.gy c43<|.cb (qC (v1)) rfl rfl aa rfl rfl<|.gy c43<|.cb (qC (v4)) rfl rfl aa rfl rfl<|.gy c43<|.ah (oU e45) ⟨rfl,rfl,trivial⟩ trivial trivial<|.gy c43<|.ah (cC e47) ⟨rfl,rfl,trivial⟩ trivial trivial<|.bm rfl c43 rfl<|.mv rfl<|.gy c48<|.cb (qC (v1)) rfl rfl aa rfl rfl<|.gy c48<|.cb (qC (v4)) rfl rfl aa rfl rfl<|.gy c48<|.ah (lA e50) ⟨rfl,rfl,trivial⟩ trivial trivial<|.gy c48<|.ah (cC e52) ⟨rfl,rfl,trivial⟩ trivial trivial<|.bm rfl c48 rfl<|.ao rfl<|.nil) rfl ?_;cases h;refine .aN (fun _ _ hb=>hb) rfl (.t1 (.tmp rfl)) (.refl _) trivial trivial
           ·replace h:=ae c48 h;refine .al (.mv rfl<|.cm rfl rfl rfl<|.mv rfl<|.gy c22<|.mv rfl<|.gy c22<|.cm rfl rfl rfl<|.bm rfl c22 rfl<|.mv rfl<|.gy c23<|.mv rfl<|.gy c23<|.cm rfl rfl rfl<|.bm rfl c23 rfl<|.mv rfl<|.gy c24<|.mv rfl<|.gy c24<|.cm rfl rfl rfl<|.bm rfl c24 rfl<|.mv rfl<|.gy c25<|.cb (qC (v1)) rfl rfl aa rfl rfl<|.gy c25<|.ah (cC e27) ⟨rfl,rfl,trivial⟩ trivial trivial<|.bm rfl c25 rfl<|.mv rfl<|.gy c28<|.cb (qC (v4)) rfl rfl aa rfl rfl<|.gy c28<|.ah (cC e30) ⟨rfl,rfl,trivial⟩ trivial trivial<|.bm rfl c28 rfl<|.mv rfl<|.gy c31<|.cb (qC (v9)) rfl rfl aa rfl rfl<|.gy c31<|.ah (cC e33) ⟨rfl,rfl,trivial⟩ trivial trivial<|.bm rfl c31 rfl<|.mv rfl<|.gy c34<|.cb (qC (v14)) rfl rfl aa rfl rfl<|.gy c34<|.ah (cC e36) ⟨rfl,rfl,trivial⟩ trivial trivial<|.bm rfl c34 rfl<|.mv rfl<|.gy c37<|.fa rfl jD<|.gy c37<|.cb (qC (v19)) rfl rfl aa rfl rfl<|.gy c37<|.ah (cC e39) ⟨rfl,rfl,trivial⟩ trivial trivial<|.bm rfl c37 rfl<|.mv rfl<|.gy c40<|.fa rfl lQ<|.gy c40<|.cb (qC (v20)) rfl rfl aa rfl rfl<|.gy c40<|.ah (cC e42) ⟨rfl,rfl,trivial⟩ trivial trivial<|.bm rfl c40 rfl<|.mv rfl<|.gy c43<|.cb (qC (v1)) rfl rfl aa rfl rfl<|.gy c43<|.cb (qC (v4)) rfl rfl aa rfl rfl<|.gy c43<|.ah (oU e45) ⟨rfl,rfl,trivial⟩ trivial trivial<|.gy c43<|.ah (cC e47) ⟨rfl,rfl,trivial⟩ trivial trivial<|.bm rfl c43 rfl<|.mv rfl<|.gm c48<|.gm c48<|.gm c48<|.gm c48<|.bh rfl c48 rfl<|.ao rfl<|.nil) rfl ?_;cases h;refine .aN (fun _ _ hb=>hb) rfl (.t1 (.tmp rfl)) (.refl _) trivial trivial
          ·replace h:=ae c43 h;refine .al (.mv rfl<|.cm rfl rfl rfl<|.mv rfl<|.gy c22<|.mv rfl<|.gy c22<|.cm rfl rfl rfl<|.bm rfl c22 rfl<|.mv rfl<|.gy c23<|.mv rfl<|.gy c23<|.cm rfl rfl rfl<|.bm rfl c23 rfl<|.mv rfl<|.gy c24<|.mv rfl<|.gy c24<|.cm rfl rfl rfl<|.bm rfl c24 rfl<|.mv rfl<|.gy c25<|.cb (qC (v1)) rfl rfl aa rfl rfl<|.gy c25<|.ah (cC e27) ⟨rfl,rfl,trivial⟩ trivial trivial<|.bm rfl c25 rfl<|.mv rfl<|.gy c28<|.cb (qC (v4)) rfl rfl aa rfl rfl<|.gy c28<|.ah (cC e30) ⟨rfl,rfl,trivial⟩ trivial trivial<|.bm rfl c28 rfl<|.mv rfl<|.gy c31<|.cb (qC (v9)) rfl rfl aa rfl rfl<|.gy c31<|.ah (cC e33) ⟨rfl,rfl,trivial⟩ trivial trivial<|.bm rfl c31 rfl<|.mv rfl<|.gy c34<|.cb (qC (v14)) rfl rfl aa rfl rfl<|.gy c34<|.ah (cC e36) ⟨rfl,rfl,trivial⟩ trivial trivial<|.bm rfl c34 rfl<|.mv rfl<|.gy c37<|.fa rfl jD<|.gy c37<|.cb (qC (v19)) rfl rfl aa rfl rfl<|.gy c37<|.ah (cC e39) ⟨rfl,rfl,trivial⟩ trivial trivial<|.bm rfl c37 rfl<|.mv rfl<|.gy c40<|.fa rfl lQ<|.gy c40<|.cb (qC (v20)) rfl rfl aa rfl rfl<|.gy c40<|.ah (cC e42) ⟨rfl,rfl,trivial⟩ trivial trivial<|.bm rfl c40 rfl<|.mv rfl<|.gm c43<|.gm c43<|.gm c43<|.gm c43<|.bh rfl c43 rfl<|.mv rfl<|.ca<|.ca<|.ca<|.ca<|.bh rfl (by decide) rfl<|.ao rfl<|.nil) rfl ?_;cases h;refine .aN (fun _ _ hb=>hb) rfl (.t1 (.tmp rfl)) (.refl _) trivial trivial
         ·replace h:=ae c40 h;refine .al (.mv rfl<|.cm rfl rfl rfl<|.mv rfl<|.gy c22<|.mv rfl<|.gy c22<|.cm rfl rfl rfl<|.bm rfl c22 rfl<|.mv rfl<|.gy c23<|.mv rfl<|.gy c23<|.cm rfl rfl rfl<|.bm rfl c23 rfl<|.mv rfl<|.gy c24<|.mv rfl<|.gy c24<|.cm rfl rfl rfl<|.bm rfl c24 rfl<|.mv rfl<|.gy c25<|.cb (qC (v1)) rfl rfl aa rfl rfl<|.gy c25<|.ah (cC e27) ⟨rfl,rfl,trivial⟩ trivial trivial<|.bm rfl c25 rfl<|.mv rfl<|.gy c28<|.cb (qC (v4)) rfl rfl aa rfl rfl<|.gy c28<|.ah (cC e30) ⟨rfl,rfl,trivial⟩ trivial trivial<|.bm rfl c28 rfl<|.mv rfl<|.gy c31<|.cb (qC (v9)) rfl rfl aa rfl rfl<|.gy c31<|.ah (cC e33) ⟨rfl,rfl,trivial⟩ trivial trivial<|.bm rfl c31 rfl<|.mv rfl<|.gy c34<|.cb (qC (v14)) rfl rfl aa rfl rfl<|.gy c34<|.ah (cC e36) ⟨rfl,rfl,trivial⟩ trivial trivial<|.bm rfl c34 rfl<|.mv rfl<|.gy c37<|.fa rfl jD<|.gy c37<|.cb (qC (v19)) rfl rfl aa rfl rfl<|.gy c37<|.ah (cC e39) ⟨rfl,rfl,trivial⟩ trivial trivial<|.bm rfl c37 rfl<|.mv rfl<|.gm c40<|.gm c40<|.gm c40<|.bh rfl c40 rfl<|.mv rfl<|.ca<|.ca<|.ca<|.ca<|.bh rfl (by decide) rfl<|.mv rfl<|.ca<|.ca<|.ca<|.ca<|.bh rfl (by decide) rfl<|.ao rfl<|.nil) rfl ?_;cases h;refine .aN (fun _ _ hb=>hb) rfl (.t1 (.tmp rfl)) (.refl _) trivial trivial
        ·replace h:=ae c37 h;refine .al (.mv rfl<|.cm rfl rfl rfl<|.mv rfl<|.gy c22<|.mv rfl<|.gy c22<|.cm rfl rfl rfl<|.bm rfl c22 rfl<|.mv rfl<|.gy c23<|.mv rfl<|.gy c23<|.cm rfl rfl rfl<|.bm rfl c23 rfl<|.mv rfl<|.gy c24<|.mv rfl<|.gy c24<|.cm rfl rfl rfl<|.bm rfl c24 rfl<|.mv rfl<|.gy c25<|.cb (qC (v1)) rfl rfl aa rfl rfl<|.gy c25<|.ah (cC e27) ⟨rfl,rfl,trivial⟩ trivial trivial<|.bm rfl c25 rfl<|.mv rfl<|.gy c28<|.cb (qC (v4)) rfl rfl aa rfl rfl<|.gy c28<|.ah (cC e30) ⟨rfl,rfl,trivial⟩ trivial trivial<|.bm rfl c28 rfl<|.mv rfl<|.gy c31<|.cb (qC (v9)) rfl rfl aa rfl rfl<|.gy c31<|.ah (cC e33) ⟨rfl,rfl,trivial⟩ trivial trivial<|.bm rfl c31 rfl<|.mv rfl<|.gy c34<|.cb (qC (v14)) rfl rfl aa rfl rfl<|.gy c34<|.ah (cC e36) ⟨rfl,rfl,trivial⟩ trivial trivial<|.bm rfl c34 rfl<|.mv rfl<|.gm c37<|.gm c37<|.gm c37<|.bh rfl c37 rfl<|.mv rfl<|.ca<|.ca<|.ca<|.bh rfl (by decide) rfl<|.mv rfl<|.ca<|.ca<|.ca<|.ca<|.bh rfl (by decide) rfl<|.mv rfl<|.ca<|.ca<|.ca<|.ca<|.bh rfl (by decide) rfl<|.ao rfl<|.nil) rfl ?_;cases h;refine .aN (fun _ _ hb=>hb) rfl (.t1 (.tmp rfl)) (.refl _) trivial trivial
       ·replace h:=ae c34 h;refine .al (.mv rfl<|.cm rfl rfl rfl<|.mv rfl<|.gy c22<|.mv rfl<|.gy c22<|.cm rfl rfl rfl<|.bm rfl c22 rfl<|.mv rfl<|.gy c23<|.mv rfl<|.gy c23<|.cm rfl rfl rfl<|.bm rfl c23 rfl<|.mv rfl<|.gy c24<|.mv rfl<|.gy c24<|.cm rfl rfl rfl<|.bm rfl c24 rfl<|.mv rfl<|.gy c25<|.cb (qC (v1)) rfl rfl aa rfl rfl<|.gy c25<|.ah (cC e27) ⟨rfl,rfl,trivial⟩ trivial trivial<|.bm rfl c25 rfl<|.mv rfl<|.gy c28<|.cb (qC (v4)) rfl rfl aa rfl rfl<|.gy c28<|.ah (cC e30) ⟨rfl,rfl,trivial⟩ trivial trivial<|.bm rfl c28 rfl<|.mv rfl<|.gy c31<|.cb (qC (v9)) rfl rfl aa rfl rfl<|.gy c31<|.ah (cC e33) ⟨rfl,rfl,trivial⟩ trivial trivial<|.bm rfl c31 rfl<|.mv rfl<|.gm c34<|.gm c34<|.bh rfl c34 rfl<|.mv rfl<|.ca<|.ca<|.ca<|.bh rfl (by decide) rfl<|.mv rfl<|.ca<|.ca<|.ca<|.bh rfl (by decide) rfl<|.mv rfl<|.ca<|.ca<|.ca<|.ca<|.bh rfl (by decide) rfl<|.mv rfl<|.ca<|.ca<|.ca<|.ca<|.bh rfl (by decide) rfl<|.ao rfl<|.nil) rfl ?_;cases h;refine .aN (fun _ _ hb=>hb) rfl (.t1 (.tmp rfl)) (.refl _) trivial trivial
      ·replace h:=ae c31 h;refine .al (.mv rfl<|.cm rfl rfl rfl<|.mv rfl<|.gy c22<|.mv rfl<|.gy c22<|.cm rfl rfl rfl<|.bm rfl c22 rfl<|.mv rfl<|.gy c23<|.mv rfl<|.gy c23<|.cm rfl rfl rfl<|.bm rfl c23 rfl<|.mv rfl<|.gy c24<|.mv rfl<|.gy c24<|.cm rfl rfl rfl<|.bm rfl c24 rfl<|.mv rfl<|.gy c25<|.cb (qC (v1)) rfl rfl aa rfl rfl<|.gy c25<|.ah (cC e27) ⟨rfl,rfl,trivial⟩ trivial trivial<|.bm rfl c25 rfl<|.mv rfl<|.gy c28<|.cb (qC (v4)) rfl rfl aa rfl rfl<|.gy c28<|.ah (cC e30) ⟨rfl,rfl,trivial⟩ trivial trivial<|.bm rfl c28 rfl<|.mv rfl<|.gm c31<|.gm c31<|.bh rfl c31 rfl<|.mv rfl<|.ca<|.ca<|.bh rfl (by decide) rfl<|.mv rfl<|.ca<|.ca<|.ca<|.bh rfl (by decide) rfl<|.mv rfl<|.ca<|.ca<|.ca<|.bh rfl (by decide) rfl<|.mv rfl<|.ca<|.ca<|.ca<|.ca<|.bh rfl (by decide) rfl<|.mv rfl<|.ca<|.ca<|.ca<|.ca<|.bh rfl (by decide) rfl<|.ao rfl<|.nil) rfl ?_;cases h;refine .aN (fun _ _ hb=>hb) rfl (.t1 (.tmp rfl)) (.refl _) trivial trivial
     ·replace h:=ae c28 h;refine .al (.mv rfl<|.cm rfl rfl rfl<|.mv rfl<|.gy c22<|.mv rfl<|.gy c22<|.cm rfl rfl rfl<|.bm rfl c22 rfl<|.mv rfl<|.gy c23<|.mv rfl<|.gy c23<|.cm rfl rfl rfl<|.bm rfl c23 rfl<|.mv rfl<|.gy c24<|.mv rfl<|.gy c24<|.cm rfl rfl rfl<|.bm rfl c24 rfl<|.mv rfl<|.gy c25<|.cb (qC (v1)) rfl rfl aa rfl rfl<|.gy c25<|.ah (cC e27) ⟨rfl,rfl,trivial⟩ trivial trivial<|.bm rfl c25 rfl<|.mv rfl<|.gm c28<|.gm c28<|.bh rfl c28 rfl<|.mv rfl<|.ca<|.ca<|.bh rfl (by decide) rfl<|.mv rfl<|.ca<|.ca<|.bh rfl (by decide) rfl<|.mv rfl<|.ca<|.ca<|.ca<|.bh rfl (by decide) rfl<|.mv rfl<|.ca<|.ca<|.ca<|.bh rfl (by decide) rfl<|.mv rfl<|.ca<|.ca<|.ca<|.ca<|.bh rfl (by decide) rfl<|.mv rfl<|.ca<|.ca<|.ca<|.ca<|.bh rfl (by decide) rfl<|.ao rfl<|.nil) rfl ?_;cases h;refine .aN (fun _ _ hb=>hb) rfl (.t1 (.tmp rfl)) (.refl _) trivial trivial
    ·replace h:=ae c25 h;refine .al (.mv rfl<|.cm rfl rfl rfl<|.mv rfl<|.gy c22<|.mv rfl<|.gy c22<|.cm rfl rfl rfl<|.bm rfl c22 rfl<|.mv rfl<|.gy c23<|.mv rfl<|.gy c23<|.cm rfl rfl rfl<|.bm rfl c23 rfl<|.mv rfl<|.gy c24<|.mv rfl<|.gy c24<|.cm rfl rfl rfl<|.bm rfl c24 rfl<|.mv rfl<|.gm c25<|.gm c25<|.bh rfl c25 rfl<|.mv rfl<|.ca<|.ca<|.bh rfl (by decide) rfl<|.mv rfl<|.ca<|.ca<|.bh rfl (by decide) rfl<|.mv rfl<|.ca<|.ca<|.bh rfl (by decide) rfl<|.mv rfl<|.ca<|.ca<|.ca<|.bh rfl (by decide) rfl<|.mv rfl<|.ca<|.ca<|.ca<|.bh rfl (by decide) rfl<|.mv rfl<|.ca<|.ca<|.ca<|.ca<|.bh rfl (by decide) rfl<|.mv rfl<|.ca<|.ca<|.ca<|.ca<|.bh rfl (by decide) rfl<|.ao rfl<|.nil) rfl ?_;cases h;refine .aN (fun _ _ hb=>hb) rfl (.t1 (.tmp rfl)) (.refl _) trivial trivial
   ·replace h:=ae c24 h;refine .al (.mv rfl<|.cm rfl rfl rfl<|.mv rfl<|.gy c22<|.mv rfl<|.gy c22<|.cm rfl rfl rfl<|.bm rfl c22 rfl<|.mv rfl<|.gy c23<|.mv rfl<|.gy c23<|.cm rfl rfl rfl<|.bm rfl c23 rfl<|.mv rfl<|.gm c24<|.gm c24<|.bh rfl c24 rfl<|.mv rfl<|.ca<|.ca<|.bh rfl (by decide) rfl<|.mv rfl<|.ca<|.ca<|.bh rfl (by decide) rfl<|.mv rfl<|.ca<|.ca<|.bh rfl (by decide) rfl<|.mv rfl<|.ca<|.ca<|.bh rfl (by decide) rfl<|.mv rfl<|.ca<|.ca<|.ca<|.bh rfl (by decide) rfl<|.mv rfl<|.ca<|.ca<|.ca<|.bh rfl (by decide) rfl<|.mv rfl<|.ca<|.ca<|.ca<|.ca<|.bh rfl (by decide) rfl<|.mv rfl<|.ca<|.ca<|.ca<|.ca<|.bh rfl (by decide) rfl<|.ao rfl<|.nil) rfl ?_;cases h;refine .aN (fun _ _ hb=>hb) rfl (.t1 (.tmp rfl)) (.refl _) trivial trivial
  ·replace h:=ae c23 h;refine .al (.mv rfl<|.cm rfl rfl rfl<|.mv rfl<|.gy c22<|.mv rfl<|.gy c22<|.cm rfl rfl rfl<|.bm rfl c22 rfl<|.mv rfl<|.gm c23<|.gm c23<|.bh rfl c23 rfl<|.mv rfl<|.ca<|.ca<|.bh rfl (by decide) rfl<|.mv rfl<|.ca<|.ca<|.bh rfl (by decide) rfl<|.mv rfl<|.ca<|.ca<|.bh rfl (by decide) rfl<|.mv rfl<|.ca<|.ca<|.bh rfl (by decide) rfl<|.mv rfl<|.ca<|.ca<|.bh rfl (by decide) rfl<|.mv rfl<|.ca<|.ca<|.ca<|.bh rfl (by decide) rfl<|.mv rfl<|.ca<|.ca<|.ca<|.bh rfl (by decide) rfl<|.mv rfl<|.ca<|.ca<|.ca<|.ca<|.bh rfl (by decide) rfl<|.mv rfl<|.ca<|.ca<|.ca<|.ca<|.bh rfl (by decide) rfl<|.ao rfl<|.nil) rfl ?_;cases h;refine .aN (fun _ _ hb=>hb) rfl (.t1 (.tmp rfl)) (.refl _) trivial trivial
 ·replace h:=ae c22 h;refine .al (.mv rfl<|.cm rfl rfl rfl<|.mv rfl<|.gm c22<|.gm c22<|.bh rfl c22 rfl<|.mv rfl<|.ca<|.ca<|.bh rfl (by decide) rfl<|.mv rfl<|.ca<|.ca<|.bh rfl (by decide) rfl<|.mv rfl<|.ca<|.ca<|.bh rfl (by decide) rfl<|.mv rfl<|.ca<|.ca<|.bh rfl (by decide) rfl<|.mv rfl<|.ca<|.ca<|.bh rfl (by decide) rfl<|.mv rfl<|.ca<|.ca<|.bh rfl (by decide) rfl<|.mv rfl<|.ca<|.ca<|.ca<|.bh rfl (by decide) rfl<|.mv rfl<|.ca<|.ca<|.ca<|.bh rfl (by decide) rfl<|.mv rfl<|.ca<|.ca<|.ca<|.ca<|.bh rfl (by decide) rfl<|.mv rfl<|.ca<|.ca<|.ca<|.ca<|.bh rfl (by decide) rfl<|.ao rfl<|.nil) rfl ?_;cases h;refine .aN (fun _ _ hb=>hb) rfl (.t1 (.tmp rfl)) (.refl _) trivial trivial
def mA(a1:Rat)(a2:Rat):Option Bool:=(kK a1 a2).bind fun v3=>(if(v3==0)=true then(ts a1).bind fun v6=>(ts a2).bind fun v8=>some (v6==v8)else some false)
theorem Cx{a1:Rat}{a2:Rat}{r10:Bool}(h:mA a1 a2=some r10):aW PP 34 [] [qD a1,qD a2] [] (D.bool r10):=by
 unfold mA at h;refine .of Go.Proofs.Tryz.func34 rfl (by kernel_rfl) rfl rfl rfl rfl rfl rfl (fun A w0 L b=>?_);show Ok PP _ [(0,qD a1),(1,qD a2)] [] _ _;refine .al (.j8 rfl rfl<|.j8 rfl rfl<|.ao rfl<|.nil) rfl ?_;obtain⟨v3,e4,h⟩:=bind_some h;by_cases c5:(v3==0)=true
 ·replace h:=ab c5 h;obtain⟨v6,e7,h⟩:=bind_some h;obtain⟨v8,e9,h⟩:=bind_some h;refine .dh cn (.cb (qC (a1)) rfl rfl aa rfl rfl<|.cb (qC (a2)) rfl rfl aa rfl rfl<|.ah (nA e4) ⟨rfl,rfl,trivial⟩ trivial trivial<|.cm rfl rfl rfl<|.mv rfl<|.gy c5<|.cb (qC (a1)) rfl rfl aa rfl rfl<|.gy c5<|.ah (zM e7) ⟨rfl,trivial⟩ trivial trivial<|.gy c5<|.cb (qC (a2)) rfl rfl aa rfl rfl<|.gy c5<|.ah (zM e9) ⟨rfl,trivial⟩ trivial trivial<|.gy c5<|.Hy rfl rfl<|.bm rfl c5 rfl<|.ao rfl<|.nil) rfl (by kernel_rfl) ?_;cases h;refine .aN (fun _ _ hb=>hb) rfl (.t1 (.tmp rfl)) (.refl _) trivial trivial
 ·replace h:=ae c5 h;refine .dh cn (.cb (qC (a1)) rfl rfl aa rfl rfl<|.cb (qC (a2)) rfl rfl aa rfl rfl<|.ah (nA e4) ⟨rfl,rfl,trivial⟩ trivial trivial<|.cm rfl rfl rfl<|.mv rfl<|.gm c5<|.gm c5<|.gm c5<|.gm c5<|.gm c5<|.bh rfl c5 rfl<|.ao rfl<|.nil) rfl (by kernel_rfl) ?_;cases h;refine .aN (fun _ _ hb=>hb) rfl (.t1 (.tmp rfl)) (.refl _) trivial trivial
end
end Go.Am
namespace Go.Am
class Bd(x:Rat)(n:outParam Nat):Prop where
 le:sz x<=n
instance Bd.mul{a b:Rat}{i j:Nat}[h:Bd a i][k:Bd b j]:Bd (a*b) (i+j):=⟨by have:=gQ a b;have:=h.le;have:=k.le;omega⟩
theorem Bd.qs{x:Rat}{n:Nat}[h:Bd x n](k:n<=400000000000):dv x:=Nat.le_trans h.le k
theorem x9{a b:Rat}(h:dv a)(k:dv b):j0 a b=some (a+b):=aG ⟨h,k⟩
theorem Di{a b:Rat}(h:dv a)(k:dv b):kH a b=some (a-b):=aG ⟨h,k⟩
theorem jL{a b:Rat}(h:dv a)(k:dv b):eJ a b=some (a*b):=aG ⟨h,k⟩
theorem qP{a b:Rat}(h0:b≠0)(h:dv a)(k:dv b):gR a b=some (a/b):=aG ⟨h0,h,k⟩
theorem s9{a b:Rat}(h:dv a)(k:dv b):kK a b=some (iu a b):=aG ⟨h,k⟩
theorem Bo{a:Rat}(h:dv a):ts a=some (Iq a):=aG h
theorem Bg{a:Rat}(h:dv a):mA a a=some true:=by
 unfold mA;rw[s9 h h,Bo h];have:iu a a=0:=oK.2 rfl;simp[this]
def rR(n d p:Int):Rat:=((n:Rat)/(((if d=0 then 1 else d):Int):Rat))^(1+(p%4).toNat)
theorem G2(n d:Int)(hd:d≠0):(n:Rat)/(d:Rat)=mkRat (if d<0 then-n else n) d.natAbs:=by
 rw[Rat.mkRat_eq_div];by_cases h:d<0
 ·rw[if_pos h];have e:((d.natAbs:Nat):Rat)=-(d:Rat):=by
   have:((d.natAbs:Nat):Int)=-d:=by omega
   have h2:((d.natAbs:Nat):Rat)=(((d.natAbs:Nat):Int):Rat):=rfl;rw[h2,this,Rat.intCast_neg]
  rw[e,Rat.intCast_neg];grind
 ·rw[if_neg h];have e:((d.natAbs:Nat):Rat)=(d:Rat):=by
   have:((d.natAbs:Nat):Int)=d:=by omega
   have h2:((d.natAbs:Nat):Rat)=(((d.natAbs:Nat):Int):Rat):=rfl;rw[h2,this]
  rw[e]
theorem Ep{n d:Int}(hn:eM n)(hd:eM d)(h0:d≠0):sz ((n:Rat)/(d:Rat))<=64:=by
 rw[G2 n d h0];unfold eM at hn hd;refine FM _ _ _ (by omega) (dS ?_) (dS ?_)
 ·split<;>omega
 ·omega
theorem wS(n d p:Int)(hn:eM n)(hd:eM d)(hp:0<=p/\p<=255):lZ n d p=some (rR n d p,rR n d p)/\sz (rR n d p)<=256:=by
 obtain⟨D,hD⟩:∃D,D=if d=0 then 1 else d:=⟨_,rfl⟩;have hD0:D≠0:=by rw[hD];split<;>omega
 have hDr:eM D:=by
  rw[hD];unfold eM at hd|-
  split<;>omega
 have hx:sz ((n:Rat)/(D:Rat))<=64:=Ep hn hDr hD0;generalize hX:(n:Rat)/(D:Rat)=X at hx;have hpow:∀i:Nat,sz (X^(1+i))<=64*(1+i):=by
  intro i
  induction i with
  |zero=>simpa using hx
  |succ i ih=>
   rw[show 1+(i+1)=(1+i)+1 by omega,Rat.pow_succ];have:=gQ (X^(1+i)) X;omega
 have hm:Int.tmod p 4=p%4:=Int.tmod_eq_emod_of_nonneg hp.1;have hb:rR n d p=X^(1+(p%4).toNat):=by unfold rR;rw[←hD,hX]
 refine⟨?_,by rw[hb];have:=hpow (p%4).toNat;omega⟩;unfold lZ;have e1:(if(d==0)=true then some 1 else some d)=some D:=by rw[hD];by_cases h:d=0<;>simp[h]
 have e2:Ei n D=some (X,0):=by
  unfold Ei;rw[aG ⟨hn,hDr⟩,if_neg hD0,hX]
 have e3:Eh n D=some X:=by
  unfold Eh;rw[aG ⟨hn,hDr,hD0⟩,hX]
 rw[e1];simp only[Option.bind_some];rw[e2];simp only[Option.bind_some];rw[e3];simp only[Option.bind_some];obtain⟨r,hr,rfl⟩:=bZ (body:=fun(s:Int×Rat×Rat)=>jO p X X s.1 s.2.1 s.2.2) (0,X,X) (fun s=>∃i:Nat,i<=(p%4).toNat/\s=((i:Int),X^(1+i),X^(1+i))) (fun s=>(4-s.1).toNat) (fun r=>r=(X^(1+(p%4).toNat),X^(1+(p%4).toNat))) ⟨0,Nat.zero_le _,by simp⟩ (by
  rintro s ⟨i,hi,rfl⟩;simp only;unfold jO;rw[hm];by_cases h:(i:Int)<p%4
  ·left
   have h1:dv (X^(1+i)):=Nat.le_trans (hpow i) (by omega);have h2:dv X:=Nat.le_trans hx (by omega);rw[if_pos (decide_eq_true h),jL h1 h2];simp only[Option.bind_some];have h3:IntKind.u8.wrap ((i:Int)+1)=(i:Int)+1:=Db _ (by omega);rw[h3];refine⟨_,rfl,⟨i+1,by omega,?_⟩,by omega⟩;rw[show 1+(i+1)=(1+i)+1 by omega,Rat.pow_succ];rfl
  ·right
   rw[if_neg (by simpa using h)];refine⟨_,rfl,?_⟩;have:i=(p%4).toNat:=by omega
   rw[this])
 rw[hr,hb]
 rfl
end Go.Am
namespace Go.Am
theorem ij:iz=some true:=by decide+kernel
end Go.Am
namespace Go.Am
open Go.RowKit
set_option maxRecDepth 100000
noncomputable section
end
end Go.Am
namespace Go.Am
def qj(x:Int×Int×Int):Prop:=eM x.1/\eM x.2.1/\0<=x.2.2/\x.2.2<=255
def cN(l:List (Int×Int×Int)):List Rat:=l.map fun x=>rR x.1 x.2.1 x.2.2
theorem dM{α:Type}{l:List α}{d:α}{i:Nat}(h:i<l.length):l.getD i d=l[i]:=by simp[List.getD,h]
theorem jG{α:Type}{l:List α}{d:α}{i:Nat}(h:l.length<=i):l.getD i d=d:=by simp[List.getD,h]
theorem Ik{α:Type}(l:List α)(d:α)(i:Nat)(h:i<l.length):ix l (i:Int)=some (l.getD i d):=by
 rw[dT h,dM h]
theorem ct{i n:Nat}(h:i<n)(hn:n<=1000):IntKind.i64.wrap ((i:Int)+1)=((i+1:Nat):Int):=by
 rw[i64_in (by omega)];omega
theorem xv{l:List (Int×Int×Int)}(h:∀x∈l,qj x)(i:Nat):sz ((cN l).getD i 0)<=256:=by
 by_cases hi:i<(cN l).length
 ·rw[dM hi];have hi':i<l.length:=by simpa [cN]using hi
  simp only[cN,List.getElem_map];have:=h l[i] (List.getElem_mem hi');exact(wS _ _ _ this.1 this.2.1 this.2.2).2
 ·rw[jG (by omega)];decide
theorem Ag(l:List (Int×Int×Int))(h:∀x∈l,qj x)(hl:l.length<=30):mg l=some (cN l,cN l):=by
 unfold mg;obtain⟨r,hr,rfl⟩:=bZ (body:=fun(s:Int×(List Rat)×(List Rat))=>jZ l s.1 s.2.1 s.2.2) (0,[],[]) (fun s=>∃i:Nat,i<=l.length/\s=((i:Int),(cN l).take i,(cN l).take i)) (fun s=>(l.length-s.1).toNat) (fun r=>r=(cN l,cN l)) ⟨0,Nat.zero_le _,by simp⟩ (by
  rintro s ⟨i,hi,rfl⟩;simp only;unfold jZ;by_cases hlt:i<l.length
  ·left
   have hb:i<(cN l).length:=by simpa [cN]using hlt
   have hm:(cN l).length=l.length:=by simp[cN]
   have hx:ix l (i:Int)=some l[i]:=by
    unfold ix;rw[if_pos (by omega),Int.toNat_natCast,List.getElem?_eq_getElem hlt]
   have ho:=h l[i] (List.getElem_mem hlt);have hB:=(wS _ _ _ ho.1 ho.2.1 ho.2.2).1;rw[if_pos (decide_eq_true (by omega)),hx];simp only[Option.bind_some];rw[hB];simp only[Option.bind_some];have ht:((cN l).take i).length=i:=by rw[List.length_take];omega
   rw[aG (by rw[ht];simp only[List.length_cons,List.length_nil];omega),aG (by rw[ht];simp only[List.length_cons,List.length_nil];omega),ct hlt (by omega)];have e:rR l[i].1 l[i].2.1 l[i].2.2=(cN l)[i]:=by simp[cN]
   rw[e];refine⟨_,rfl,⟨i+1,hlt,?_⟩,by simp only;omega⟩;rw[List.take_succ_eq_append_getElem hb]
  ·right
   rw[if_neg (by simp;omega)];refine⟨_,rfl,?_⟩;have:i=(cN l).length:=by simp[cN];omega
   rw[this,List.take_length])
 rw[hr]
 rfl
end Go.Am
namespace Go.Am
theorem GO{a b:Rat}{i j:Nat}[Bd a i][Bd b j](h:i<=400000000000)(k:j<=400000000000):j0 a b=some (a+b):=x9 (Bd.qs h) (Bd.qs k)
theorem GG{a b:Rat}{i j:Nat}[Bd a i][Bd b j](h:i<=400000000000)(k:j<=400000000000):eJ a b=some (a*b):=jL (Bd.qs h) (Bd.qs k)
theorem HW:fh 1=some 1:=by decide+kernel
theorem mP{x:Rat}:Be x=0↔x=0:=by unfold Be;grind
end Go.Am
namespace Go.Am
open Go.RowKit
def D.mr(s k:Nat):D where
 p:=fun ε _ _ v=>v.oneCell'=true/\∃vs:Array Value,ε s=.agg vs/\vs[k]?=some v
 nm:=[s]
 sh:=.one
 mono:=fun h he _=>by rw[he _ (by simp)];exact h
 ji:=fun h=>h.1
def D.mc(s k off:Nat):D where
 p:=fun ε _ _ v=>∃(vs:Array Value) (u:Value),ε s=.agg vs/\vs[k]?=some u/\v=.pointer (some ⟨j3 u,off,none⟩)
 nm:=[s]
 sh:=.one
 mono:=fun h he _=>by rw[he _ (by simp)];exact h
 ji:=fun⟨_,_,_,_,e⟩=>by subst e;rfl
def Hp.store{α:Type}(e:ak α)(te:TypeId)(M:List (List α)):Hp where
 p:=fun ε w S b F=>∃(vs:Array Value) (G:Nat->ck),b=.agg vs/\vs.size=M.length/\
  (∀k xs v,M[k]?=some xs->vs[k]?=some v->(aR e te xs).p ε w S v (G k))/\
  (∀k k',k<M.length->k'<M.length->k≠k'->∀i,G k i->¬G k' i)/\(∀i,F i↔∃k,k<M.length/\G k i)
 nm:=[]
 mono:=fun⟨vs,G,h1,h2,h3,h4,h5⟩ he hS hF=>⟨vs,G,h1,h2,fun k xs v hx hv=>(aR e te xs).mono (h3 k xs v hx hv) (fun r hr=>by cases hr) hS (fun i hi=>hF i ((h5 i).2 ⟨k,(List.getElem?_eq_some_iff.1 hx).1,hi⟩)),h4,h5⟩
def kP(m:Nat)(ty:TypeId)(l:List D)(ε:Env)(w:World)(S:ck)(b:Value)(F:ck):Prop:=
 (l=[]/\b=.slice none 0 0/\F=noBlocks)\/
  ∃(g n cap:Nat) (cs rest:List Value),b=.slice (some ⟨g,0,none⟩) n cap/\F=only g/\w.heap[g]?=some (.cells (cs++rest).toArray ty (0,0))/\(∀u∈cs,u.oneCell'=true)/\(cs++rest).length=cap*m/\cap<=maxLen/\l.length=n*m/\bN ε w S l cs
theorem oh{m:Nat}{ty:TypeId}{l:List D}{ε ε':Env}{w w':World}{S S':ck}{b:Value}{F:ck}(h:kP m ty l ε w S b F)(he:∀r∈bD l,ε' r=ε r)(hS:∀k,S k->k<w.heap.size->S' k/\w'.heap[k]?=w.heap[k]?)(hF:∀k,F k->w'.heap[k]?=w.heap[k]?):kP m ty l ε' w' S' b F:=by
 rcases h with h|⟨g,n,cap,cs,rest,h1,h2,h3,h4,h5,h8,h6,h7⟩
 ·exact .inl h
 ·exact .inr ⟨g,n,cap,cs,rest,h1,h2,(hF g (by rw[h2];rfl)).trans h3,h4,h5,h8,h6,bF hS h7 he⟩
def b_(s n:Nat):List D:=(List.range n).map (D.mr s)
theorem qJ{s n r:Nat}(h:r∈bD (b_ s n)):r=s:=by
 obtain⟨d,hd,hr⟩:=bG.1 h;obtain⟨k,_,rfl⟩:=List.mem_map.1 hd;simpa [D.mr]using hr
theorem mH{α:Type}(e:ak α)(X:List (List α)):bD (X.map (an e))=[]:=by
 induction X with
 |nil=>rfl
 |cons x X ih=>exact ih
def Hp.cg{α:Type}(e:ak α)(te:TypeId)(s:Nat)(X:List (List α)):Hp where
 p:=fun ε w S b F=>∃vs:Array Value,ε s=.agg vs/\kP 1 te (b_ s vs.size++X.map (an e)) ε w S b F
 nm:=[s]
 mono:=fun⟨vs,h1,h2⟩ he hS hF=>⟨vs,by rw[he _ (by simp)];exact h1,oh h2 (fun r hr=>by
  rcases bG.1 hr with⟨d,hd,hr'⟩;rcases List.mem_append.1 hd with hd|hd
  ·exact he _ (by rw[qJ (bG.2 ⟨d,hd,hr'⟩)];simp)
  ·have:=bG.2 ⟨d,hd,hr'⟩;rw[mH]at this;cases this) hS hF⟩
theorem cd.wm{c:Ctx}{T:Nat->Option D}{H:Nat->Option Hp}{a:Act}{w:World}{ε ε':Env}{φ φ':Nat->ck}(h:cd c T H a w ε φ){L:List (Nat×Hp)}
  (hε:∀q,H q≠none->ε' q=ε q)
  (hφ:∀q,af L q=none->φ' q=φ q)
  (hF:∀q k,af L q≠none->φ' q k->∃q',H q'≠none/\af L q'≠none/\φ q' k)
  (hdj:∀q q',af L q≠none->af L q'≠none->q≠q'->∀k,φ' q k->¬φ' q' k)
  (hp:∀q x,af L q=some x->x.p ε' w (al c (bf H L) φ') (ε' q) (φ' q))
  (hn:∀q x,af L q=some x->∀q'∈x.nm,H q'≠none\/af L q'≠none):
  cd c T (bf H L) a w ε' φ'/\(∀k,al c H φ k->al c (bf H L) φ' k):=by
 have hU:∀r,bf H L r≠none↔(af L r≠none\/H r≠none):=by
  intro r;simp only[bf];cases af L r<;>simp
 have hreg:∀k,al c H φ k->al c (bf H L) φ' k:=by
  intro k hk;refine⟨hk.1,fun r hr hf=>?_⟩;by_cases hL:af L r=none
  ·rw[hφ r hL]at hf;exact hk.2 r (((hU r).1 hr).resolve_left (fun h=>h hL)) hf
  ·obtain⟨q',h1,_,h3⟩:=hF r k hL hf;exact hk.2 q' h1 h3
 have hS:∀k,al c H φ k->k<w.heap.size->al c (bf H L) φ' k/\w.heap[k]?=w.heap[k]?:=fun k hk _=>⟨hreg k hk,rfl⟩;refine⟨?_,hreg⟩
 constructor
 ·exact fun t d ht=>d.mono (h.t t d ht) (fun r hr=>hε r (h.tn t d ht r hr)) hS
 ·exact fun t d ht r hr=>(hU r).2 (.inr (h.tn t d ht r hr))
 ·intro r x hr;by_cases hL:af L r=none
  ·have hr0:H r=some x:=by simpa only[bf,hL]using hr
   rw[hφ r hL,hε r (by rw[hr0];simp)];exact x.mono (h.h r x hr0) (fun r2 h2=>hε r2 (h.hn r x hr0 r2 h2)) hS (fun _ _=>rfl)
  ·cases hq:af L r with
   |none=>exact absurd hq hL
   |some y=>
    have:y=x:=by simp only[bf,hq]at hr;injection hr
    subst this;exact hp r y hq
 ·intro r x hr r' hr';by_cases hL:af L r=none
  ·have hr0:H r=some x:=by simpa only[bf,hL]using hr
   exact(hU r').2 (.inr (h.hn r x hr0 r' hr'))
  ·cases hq:af L r with
   |none=>exact absurd hq hL
   |some y=>
    have:y=x:=by simp only[bf,hq]at hr;injection hr
    subst this;exact(hU r').2 ((hn r y hq r' hr').symm)
 ·intro r hr k hk;by_cases hL:af L r=none
  ·rw[hφ r hL]at hk;exact h.lo r (((hU r).1 hr).resolve_left (fun h=>h hL)) k hk
  ·obtain⟨q',h1,_,h3⟩:=hF r k hL hk;exact h.lo q' h1 k h3
 ·intro r r' hr hr' hne k hk;have old:∀q,bf H L q≠none->af L q=none->H q≠none:=fun q h1 h2=>((hU q).1 h1).resolve_left (fun h=>h h2);by_cases hL:af L r=none
  ·have h0:=old r hr hL;rw[hφ r hL]at hk;by_cases hL':af L r'=none
   ·rw[hφ r' hL'];exact h.dj r r' h0 (old r' hr' hL') hne k hk
   ·intro hk';obtain⟨q',h1,h2,h3⟩:=hF r' k hL' hk';exact h.dj r q' h0 h1 (fun e=>by subst e;exact h2 hL) k hk h3
  ·by_cases hL':af L r'=none
   ·rw[hφ r' hL'];intro hk';obtain⟨q',h1,h2,h3⟩:=hF r k hL hk;exact h.dj q' r' h1 (old r' hr' hL') (fun e=>by subst e;exact h2 hL') k h3 hk'
   ·exact hdj r r' hL hL' hne k hk
 ·exact h.pP
 ·exact h.bs
 ·exact h.sz
 ·exact h.df
end Go.Am
