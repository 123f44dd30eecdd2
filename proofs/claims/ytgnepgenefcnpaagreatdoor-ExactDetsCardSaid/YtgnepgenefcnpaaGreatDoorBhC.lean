/- Part 3 of 7 of what the laws of layer 1 share: contracts of functions of the program, each for every argument of its description; no condition beyond it. -/
import Derived.Test.YtgnepgenefcnpaaGreatDoorBhB
import Derived.Shelf.Strings.SlTrimAscii
import Derived.Shelf.Strings.Trim
import Derived.Shelf.Small.Strs
import Derived.Shelf.Strings.Search1
import Derived.Shelf.Strings.Search2
import Derived.Shelf.Strings.Cut
import Derived.Test.YtgnepgenefcnpaaGreatDoorProg
import Derived.RangeFuncOwn
set_option linter.unusedVariables false
set_option linter.unusedSimpArgs false
namespace Go.Am
open Go.RowKit
set_option maxRecDepth 100000
noncomputable section
def kn(v2:List Int):Option (St (List Int) (List Int)):=(if(decide ((v2.length:Int)>0))=true then(ix v2 (IntKind.i64.wrap ((v2.length:Int)-1))).bind fun v8=>(if(v8==0)=true then cj ((0:Int)<=(IntKind.i64.wrap ((v2.length:Int)-1))/\((IntKind.i64.wrap ((v2.length:Int)-1)):Int)<=(v2.length:Int)) (some (St.next (List.take (IntKind.i64.wrap ((v2.length:Int)-1)).toNat v2)))else some (St.done v2))else some (St.done v2))
def jD(a1:List Int):Option (List Int):=(Loop (fun(s:(List Int))=>kn s) a1).bind fun v12=>some v12
theorem qH{a1:List Int}{r13:List Int}(h:jD a1=some r13):bf PP 248 [] [ai (ak.int .i64) a1] [] (ai (ak.int .i64) r13):=by
 unfold jD at h;refine .of Go.Proofs.Tryz.func248 rfl (by kernel_rfl) rfl rfl rfl rfl rfl rfl (fun A w0 L b=>?_);show Ok PP _ [(0,ai (ak.int .i64) a1)] [] _ _;refine .al (.aq rfl<|.nil) rfl ?_;obtain⟨v12,hl4,h⟩:=bind_some h;refine .cc (fun i=>v12=i) (fun(i:(List Int))=>[(0,ai (ak.int .i64) i)]) (fun(i:(List Int))=>[]) ?_ ?_
 ·have ho1:=h;refine .block (.bU (fun(s:(List Int))=>[(0,ai (ak.int .i64) s)]) (fun(s:(List Int))=>[]) hl4 (.of rfl) trivial rfl rfl ?_);rintro v2 st5 hb6;have h:kn v2=some st5:=hb6;unfold kn at h
  try dsimp only
  refine .sq ?_;by_cases c7:(decide ((v2.length:Int)>0))=true
  ·replace h:=ab c7 h;obtain⟨v8,e9,h⟩:=bind_some h;refine .al (.mv rfl<|.ec rfl bK<|.cm rfl rfl rfl<|.mv rfl<|.gy c7<|.mv rfl<|.gy c7<|.mv rfl<|.gy c7<|.ec rfl bK<|.gy c7<|.ar rfl rfl rfl<|.gy c7<|.ll rfl rfl dX (af e9).1 (af e9).2<|.gy c7<|.i6 rfl dQ<|.gy c7<|.cm rfl rfl rfl<|.aX rfl c7 rfl<|.nil) rfl ?_;by_cases c10:(v8==0)=true
   ·replace h:=ab c10 h;refine .cl rfl c10 ?_;refine .skip (Ok.on ?_);refine .block ?_;obtain⟨k11,h⟩:=av h;refine .region (.mv rfl<|.mv rfl<|.ec rfl bK<|.ar rfl rfl rfl<|.JA rfl rfl dX k11.1 k11.2<|.aq rfl<|.nil) rfl (fun _ _ hs=>⟨(List.take (IntKind.i64.wrap ((v2.length:Int)-1)).toNat v2),(sj h),hs.sub (.of rfl) trivial rfl rfl⟩)
   ·replace h:=aa c10 h;refine .cq rfl c10 ?_;refine .exit (fun _ _ hs=>⟨_,(sj h),fun e=>⟨v2,e.symm,hs.sub (.of rfl) trivial rfl rfl⟩⟩)
  ·replace h:=aa c7 h;refine .al (.mv rfl<|.ec rfl bK<|.cm rfl rfl rfl<|.mv rfl<|.gm c7<|.gm c7<|.gm c7<|.gm c7<|.gm c7<|.gm c7<|.gm c7<|.aT rfl c7 rfl<|.nil) rfl ?_;refine .cq rfl (by decide) ?_;refine .exit (fun _ _ hs=>⟨_,(sj h),fun e=>⟨v2,e.symm,hs.sub (.of rfl) trivial rfl rfl⟩⟩)
 ·rintro _ rfl
  try dsimp only
  refine .al (.mv rfl<|.aq rfl<|.nil) rfl ?_;cases h;refine .aO (fun _ _ hb=>hb) rfl (.t1 (.tmp rfl)) (.refl _) trivial trivial
def kj(v2:Int)(v3:List Int):Option (St (Int×(List Int)) (List Int)):=(if(v2 !=0)=true then((if(decide ((Int.tmod v2 10000)<0))=true then some ((IntKind.i64.wrap (0-(Int.tmod v2 10000))))else some ((Int.tmod v2 10000)))).bind fun v12=>cj ((v3.length+([v12]).length)*8<=140737488355328/\v3.length+([v12]).length<=9223372036854775807) (some (St.next ((IntKind.i64.wrap (Int.tdiv v2 10000)),(v3++[v12]))))else some (St.done v3))
def fQ(a1:Int):Option (Bool×(List Int)):=(Loop (fun(s:Int×(List Int))=>kj s.1 s.2) (a1,[])).bind fun v14=>some ((decide (a1<0)),v14)
theorem lM{a1:Int}{r15:Bool}{r16:List Int}(h:fQ a1=some (r15,r16)):bf PP 157 [] [D.int .i64 a1] [] (D.agg ([D.bool r15,ai (ak.int .i64) r16])):=by
 unfold fQ at h;refine .of Go.Proofs.Tryz.func157 rfl (by kernel_rfl) rfl rfl rfl rfl rfl rfl (fun A w0 L b=>?_);show Ok PP _ [(0,D.int .i64 a1)] [] _ _;refine .al (.fN ([D.bool false,D.nil]) cn ⟨.refl _,.refl _,trivial⟩ rfl<|.nil) rfl ?_;refine .al (.fN ([D.bool false,D.nil]) cn ⟨.refl _,.refl _,trivial⟩ rfl<|.nil) rfl ?_;refine .al (.mv rfl<|.cm rfl rfl rfl<|.fa rfl bL<|.Ad ([D.bool (decide (a1<0)),D.nil]) rfl rfl rfl bT rfl rfl rfl<|.nil) rfl ?_;refine .Kb (ak.int .i64) 3 1 2000301 3 ([D.bool (decide (a1<0)),D.own 2000301]) rfl rfl rfl rfl ?_;obtain⟨v14,hl5,h⟩:=bind_some h;refine .cc (fun i=>v14=i) (fun(i:(List Int))=>[(2,D.ref 2 0),(3,D.ref 3 0)]) (fun(i:(List Int))=>[(2,Hp.box 35 ([D.bool false,D.nil])),(3,Hp.box 35 ([D.bool (decide (a1<0)),D.own 2000301])),(2000301,aY (ak.int .i64) 3 i)]) ?_ ?_
 ·have ho1:=h;refine .block (.bU (fun(s:Int×(List Int))=>[(0,D.int .i64 s.1),(2,D.ref 2 0),(3,D.ref 3 0)]) (fun(s:Int×(List Int))=>[(2,Hp.box 35 ([D.bool false,D.nil])),(3,Hp.box 35 ([D.bool (decide (a1<0)),D.own 2000301])),(2000301,aY (ak.int .i64) 3 s.2)]) hl5 (.of rfl) (.of rfl) rfl rfl ?_);rintro⟨v2,v3⟩ st6 hb7;have h:kj v2 v3=some st6:=hb7;unfold kj at h
  try dsimp only
  refine .sq ?_;refine .al (.mv rfl<|.cm rfl rfl rfl<|.nil) rfl ?_;by_cases c8:(v2 !=0)=true
  ·replace h:=ab c8 h;refine .cl rfl c8 ?_;refine .skip (Ok.on ?_);refine .block ?_;refine .al (.mv rfl<|.ar rfl rfl (tN (by decide))<|.aq rfl<|.nil) rfl ?_;obtain⟨v12,hp10,h⟩:=bind_some h;refine .cc (fun i=>v12=i) (fun(i:Int)=>[(0,D.int .i64 v2),(2,D.ref 2 0),(3,D.ref 3 0),(4,D.int .i64 i)]) (fun(i:Int)=>[(2,Hp.box 35 ([D.bool false,D.nil])),(3,Hp.box 35 ([D.bool (decide (a1<0)),D.own 2000301])),(2000301,aY (ak.int .i64) 3 v3)]) ?_ ?_
   ·have ho2:=h;have h:=hp10;refine .al (.mv rfl<|.cm rfl rfl rfl<|.nil) rfl ?_;by_cases c11:(decide ((Int.tmod v2 10000)<0))=true
    ·replace h:=ab c11 h;refine .cl rfl c11 ?_;refine .region (.mv rfl<|.neg rfl rfl<|.aq rfl<|.nil) rfl (fun _ _ hs=>⟨(IntKind.i64.wrap (0-(Int.tmod v2 10000))),(sj h),hs.sub (.of rfl) (.of rfl) rfl rfl⟩)
    ·replace h:=aa c11 h;refine .cq rfl c11 ?_;refine .skip (fun _ _ hs=>⟨(Int.tmod v2 10000),(sj h),hs.sub (.of rfl) (.of rfl) rfl rfl⟩)
   ·rintro _ rfl
    try dsimp only
    obtain⟨k13,h⟩:=av h;refine .al (.fa rfl aH<|.bu (D.own 2000301) rfl rfl cH rfl<|.mv rfl<|.Cx (e:=(ak.int .i64)) [v12] [(0,_,D.int .i64 v12,[D.int .i64 v12])] gZ rfl rfl rfl ⟨rfl,rfl,.one rfl,rfl,trivial⟩ ⟨rfl,trivial⟩ rfl rfl<|.Cg (ys:=[v12]) rfl (.refl _) rfl (.refl _) rfl gZ rfl k13.1 k13.2 rfl<|.fa rfl aH<|.Ad ([D.bool (decide (a1<0)),D.own 20]) rfl rfl rfl cH rfl rfl rfl<|.nil) rfl ?_;refine .region (.mv rfl<|.ar rfl rfl (yf (by decide))<|.aq rfl<|.nil) rfl (fun _ _ hs=>⟨((IntKind.i64.wrap (Int.tdiv v2 10000)),(v3++[v12])),(sj h),hs.kz (fun r=>match r with|2000301=>20|r=>r) (.r rfl rfl<|.p rfl (.ref (r:=2))<|.p rfl (.ref (r:=3))<|trivial) (.r rfl rfl<|.p rfl (.box ⟨.refl rfl,.own (r:=2000301),trivial⟩)<|.r rfl rfl<|trivial) rfl rfl rfl⟩)
  ·replace h:=aa c8 h;refine .cq rfl c8 ?_;refine .exit (fun _ _ hs=>⟨_,(sj h),fun e=>⟨v3,e.symm,hs.sub (.of rfl) (.of rfl) rfl rfl⟩⟩)
 ·rintro _ rfl
  try dsimp only
  refine .al (.ck ([D.bool (decide (a1<0)),D.own 2000301]) rfl rfl ax rfl rfl<|.cU ([D.bool (decide (a1<0)),D.own 2000301]) rfl rfl rfl ax rfl rfl rfl<|.nil) rfl ?_;refine .Ji 2 1 ([D.bool (decide (a1<0)),ai (ak.int .i64) v14]) rfl rfl rfl rfl rfl ?_;cases h;refine .aO (fun _ _ hb=>hb) rfl (.cons (.agg rfl rfl ax rfl) .nil) (.refl _) trivial trivial
def lB(a1:List Int)(a2:List Int)(v7:Int):Option (St Int (Ex Unit Int)):=(if(decide (v7>=0))=true then(ix a1 v7).bind fun v13=>(ix a2 v7).bind fun v15=>(if(v13 !=v15)=true then(ix a1 v7).bind fun v18=>(ix a2 v7).bind fun v20=>(if(decide (v18<v20))=true then some (St.done (Ex.ret (-1)))else some (St.done (Ex.ret 1)))else some (St.next (IntKind.i64.wrap (v7-1))))else some (St.done (Ex.cd ())))
def kU(a1:List Int)(a2:List Int):Option Int:=(if((a1.length:Int) !=(a2.length:Int))=true then(if(decide ((a1.length:Int)<(a2.length:Int)))=true then some (-1)else some 1)else((Loop (fun(s:Int)=>lB a1 a2 s) (IntKind.i64.wrap ((a1.length:Int)-1))).bind fun o8=>(match o8 with|Ex.cd ()=>some (Ex.cd ())|Ex.ret r23=>some (Ex.ret r23))).bind fun o5=>(match o5 with|Ex.cd ()=>some 0|Ex.ret r24=>some r24))
theorem sZ{a1:List Int}{a2:List Int}{r25:Int}(h:kU a1 a2=some r25):bf PP 218 [] [ai (ak.int .i64) a1,ai (ak.int .i64) a2] [] (D.int .i64 r25):=by
 unfold kU at h;refine .of Go.Proofs.Tryz.func218 rfl (by kernel_rfl) rfl rfl rfl rfl rfl rfl (fun A w0 L b=>?_);show Ok PP _ [(0,ai (ak.int .i64) a1),(1,ai (ak.int .i64) a2)] [] _ _;refine .al (.aq rfl<|.nil) rfl ?_;refine .sq ?_;refine .al (.mv rfl<|.ec rfl bK<|.mv rfl<|.ec rfl bK<|.cm rfl rfl rfl<|.nil) rfl ?_;by_cases c3:((a1.length:Int) !=(a2.length:Int))=true
 ·replace h:=ab c3 h;refine .cl rfl c3 ?_;refine .sq ?_;refine .al (.mv rfl<|.ec rfl bK<|.mv rfl<|.ec rfl bK<|.cm rfl rfl rfl<|.nil) rfl ?_;by_cases c4:(decide ((a1.length:Int)<(a2.length:Int)))=true
  ·replace h:=ab c4 h;refine .cl rfl c4 ?_;refine .al (.aq rfl<|.nil) rfl ?_;cases h;refine .aO (fun _ _ hb=>hb) rfl (.t1 (.tmp rfl)) (.refl _) trivial trivial
  ·replace h:=aa c4 h;refine .cq rfl c4 ?_;refine .skip (Ok.on ?_);refine .al (.aq rfl<|.nil) rfl ?_;cases h;refine .aO (fun _ _ hb=>hb) rfl (.t1 (.tmp rfl)) (.refl _) trivial trivial
 ·replace h:=aa c3 h;refine .cq rfl c3 ?_;refine .skip (Ok.on ?_);obtain⟨o5,hp6,h⟩:=bind_some h;refine .cc (fun i=>o5=Ex.cd i) (fun(i:Unit)=>[]) (fun(i:Unit)=>[]) ?_ ?_
  ·have ho1:=h;have h:=hp6;refine .al (.mv rfl<|.ec rfl bK<|.ar rfl rfl rfl<|.aq rfl<|.nil) rfl ?_;obtain⟨o8,hl9,h⟩:=bind_some h;have ho2:=h;refine .block (.bU (fun(s:Int)=>[(0,ai (ak.int .i64) a1),(1,ai (ak.int .i64) a2),(5,D.int .i64 s)]) (fun(s:Int)=>[]) hl9 (.of rfl) trivial rfl rfl ?_);rintro v7 st10 hb11;have h:lB a1 a2 v7=some st10:=hb11;unfold lB at h
   try dsimp only
   refine .sq ?_;refine .al (.mv rfl<|.cm rfl rfl rfl<|.nil) rfl ?_;by_cases c12:(decide (v7>=0))=true
   ·replace h:=ab c12 h;refine .cl rfl c12 ?_;refine .skip (Ok.on ?_);refine .sq ?_;refine .block ?_;obtain⟨v13,e14,h⟩:=bind_some h;obtain⟨v15,e16,h⟩:=bind_some h;refine .cZ cf (.mv rfl<|.mv rfl<|.ll rfl rfl dX (af e14).1 (af e14).2<|.i6 rfl dQ<|.mv rfl<|.mv rfl<|.ll rfl rfl dX (af e16).1 (af e16).2<|.i6 rfl dQ<|.cm rfl rfl rfl<|.nil) rfl (by kernel_rfl) ?_;by_cases c17:(v13 !=v15)=true
    ·replace h:=ab c17 h;refine .cl rfl c17 ?_;refine .sq ?_;obtain⟨v18,e19,h⟩:=bind_some h;obtain⟨v20,e21,h⟩:=bind_some h;refine .cZ cf (.mv rfl<|.mv rfl<|.ll rfl rfl dX (af e19).1 (af e19).2<|.i6 rfl dQ<|.mv rfl<|.mv rfl<|.ll rfl rfl dX (af e21).1 (af e21).2<|.i6 rfl dQ<|.cm rfl rfl rfl<|.nil) rfl (by kernel_rfl) ?_;by_cases c22:(decide (v18<v20))=true
     ·replace h:=ab c22 h;refine .cl rfl c22 ?_;refine .al (.aq rfl<|.nil) rfl ?_;refine .aO (Hi:=[]) (Ho:=[]) (b:=b) (fn:=Go.Proofs.Tryz.f218) (d:=D.int .i64 (-1)) (fun _ _ hb=>by exact⟨_,(sj h),fun e=>by subst e;have h:=ho2;cases h;have h:=ho1;cases h;exact hb⟩) rfl (.t1 (.tmp rfl)) (.refl _) trivial trivial
     ·replace h:=aa c22 h;refine .cq rfl c22 ?_;refine .skip (Ok.on ?_);refine .al (.aq rfl<|.nil) rfl ?_;refine .aO (Hi:=[]) (Ho:=[]) (b:=b) (fn:=Go.Proofs.Tryz.f218) (d:=D.int .i64 1) (fun _ _ hb=>by exact⟨_,(sj h),fun e=>by subst e;have h:=ho2;cases h;have h:=ho1;cases h;exact hb⟩) rfl (.t1 (.tmp rfl)) (.refl _) trivial trivial
    ·replace h:=aa c17 h;refine .cq rfl c17 ?_;refine .skip (Ok.on ?_);refine .region (.mv rfl<|.ar rfl rfl rfl<|.aq rfl<|.nil) rfl (fun _ _ hs=>⟨(IntKind.i64.wrap (v7-1)),(sj h),hs.sub (.of rfl) trivial rfl rfl⟩)
   ·replace h:=aa c12 h;refine .cq rfl c12 ?_;refine .exit (fun a w hs=>⟨_,(sj h),fun e=>by subst e;have h:=ho2;exact aS (⟨(),(sj h),hs.sub trivial trivial rfl rfl⟩)⟩)
  ·rintro⟨⟩ rfl
   try dsimp only
   refine .al (.aq rfl<|.nil) rfl ?_;cases h;refine .aO (fun _ _ hb=>hb) rfl (.t1 (.tmp rfl)) (.refl _) trivial trivial
def iA(a1:List Int)(a2:List Int)(v5:Int)(v6:Int)(v7:List Int):Option (St (Int×Int×(List Int)) (List Int)):=((if(decide (v6<(a1.length:Int)))=true then some (Ex.cd ())else(if(decide (v6<(a2.length:Int)))=true then some (Ex.cd ())else(if(decide (v5>0))=true then some (Ex.cd ())else some (Ex.ret ()))))).bind fun o12=>(match o12 with|Ex.cd ()=>((if(decide (v6<(a1.length:Int)))=true then(ix a1 v6).bind fun v20=>some ((IntKind.i64.wrap (v5+v20)))else some (v5))).bind fun v22=>((if(decide (v6<(a2.length:Int)))=true then(ix a2 v6).bind fun v26=>some ((IntKind.i64.wrap (v22+v26)))else some (v22))).bind fun v28=>cj ((v7.length+([(Int.tmod v28 10000)]).length)*8<=140737488355328/\v7.length+([(Int.tmod v28 10000)]).length<=9223372036854775807) (some (St.next ((IntKind.i64.wrap (Int.tdiv v28 10000)),(IntKind.i64.wrap (v6+1)),(v7++[(Int.tmod v28 10000)]))))|Ex.ret ()=>some (St.done v7))
def nT(a1:List Int)(a2:List Int):Option (List Int):=((Loop (fun(s:Int×Int×(List Int))=>iA a1 a2 s.1 s.2.1 s.2.2) (0,0,[])).bind fun v30=>some (v30)).bind fun v31=>some v31
theorem Da{a1:List Int}{a2:List Int}{r32:List Int}(h:nT a1 a2=some r32):bf PP 217 [] [ai (ak.int .i64) a1,ai (ak.int .i64) a2] [] (ai (ak.int .i64) r32):=by
 unfold nT at h;refine .of Go.Proofs.Tryz.func217 rfl (by kernel_rfl) rfl rfl rfl rfl rfl rfl (fun A w0 L b=>?_);show Ok PP _ [(0,ai (ak.int .i64) a1),(1,ai (ak.int .i64) a2)] [] _ _;refine .al (.aq rfl<|.nil) rfl ?_;refine .al (.aq rfl<|.nil) rfl ?_;refine .al (.aq rfl<|.nil) rfl ?_;obtain⟨v31,hp4,h⟩:=bind_some h;refine .cc (fun i=>v31=i) (fun(i:(List Int))=>[(5,D.own 2000005)]) (fun(i:(List Int))=>[(2000005,aY (ak.int .i64) 3 i)]) ?_ ?_
 ·have ho1:=h;have h:=hp4;refine .al (.aq rfl<|.nil) rfl ?_;refine .jF (ak.int .i64) 5 2000005 3 rfl rfl ?_;obtain⟨o8,hl9,h⟩:=bind_some h;have ho2:=h;refine .block (.bU (fun(s:Int×Int×(List Int))=>[(0,ai (ak.int .i64) a1),(1,ai (ak.int .i64) a2),(5,D.own 2000005),(6,D.int .i64 s.1),(7,D.int .i64 s.2.1)]) (fun(s:Int×Int×(List Int))=>[(2000005,aY (ak.int .i64) 3 s.2.2)]) hl9 (.of rfl) (.of rfl) rfl rfl ?_);rintro⟨v5,v6,v7⟩ st10 hb11;have h:iA a1 a2 v5 v6 v7=some st10:=hb11;unfold iA at h
  try dsimp only
  obtain⟨o12,hp13,h⟩:=bind_some h;refine .cc (fun i=>o12=Ex.cd i) (fun(i:Unit)=>[(0,ai (ak.int .i64) a1),(1,ai (ak.int .i64) a2),(5,D.own 2000005),(6,D.int .i64 v5),(7,D.int .i64 v6)]) (fun(i:Unit)=>[(2000005,aY (ak.int .i64) 3 v7)]) ?_ ?_
  ·have ho3:=h;have h:=hp13;by_cases c14:(decide (v6<(a1.length:Int)))=true
   ·replace h:=ab c14 h;refine .al (.mv rfl<|.mv rfl<|.ec rfl bK<|.cm rfl rfl rfl<|.mv rfl<|.gk c14<|.gk c14<|.gk c14<|.gk c14<|.aX rfl c14 rfl<|.mv rfl<|.gk rfl<|.gk rfl<|.aX rfl rfl rfl<|.nil) rfl ?_;refine .cl rfl rfl ?_;refine .skip (fun _ _ hs=>⟨(),(sj h),hs.sub (.of rfl) (.of rfl) rfl rfl⟩)
   ·replace h:=aa c14 h;by_cases c15:(decide (v6<(a2.length:Int)))=true
    ·replace h:=ab c15 h;refine .al (.mv rfl<|.mv rfl<|.ec rfl bK<|.cm rfl rfl rfl<|.mv rfl<|.gz c14<|.mv rfl<|.gz c14<|.mv rfl<|.gz c14<|.ec rfl bK<|.gz c14<|.cm rfl rfl rfl<|.aT rfl c14 rfl<|.mv rfl<|.gk c15<|.gk c15<|.aX rfl c15 rfl<|.nil) rfl ?_;refine .cl rfl rfl ?_;refine .skip (fun _ _ hs=>⟨(),(sj h),hs.sub (.of rfl) (.of rfl) rfl rfl⟩)
    ·replace h:=aa c15 h;refine .al (.mv rfl<|.mv rfl<|.ec rfl bK<|.cm rfl rfl rfl<|.mv rfl<|.gz c14<|.mv rfl<|.gz c14<|.mv rfl<|.gz c14<|.ec rfl bK<|.gz c14<|.cm rfl rfl rfl<|.aT rfl c14 rfl<|.mv rfl<|.gz c15<|.mv rfl<|.gz c15<|.cm rfl rfl rfl<|.aT rfl c15 rfl<|.nil) rfl ?_;by_cases c16:(decide (v5>0))=true
     ·replace h:=ab c16 h;refine .cl rfl c16 ?_;refine .skip (fun _ _ hs=>⟨(),(sj h),hs.sub (.of rfl) (.of rfl) rfl rfl⟩)
     ·replace h:=aa c16 h;refine .cq rfl c16 ?_;cases h;have h:=ho3;refine .exit (fun a w hs=>⟨_,(sj h),fun e=>by subst e;have h:=ho2;exact aS (⟨v7,(sj h),hs.sub (.of rfl) (.of rfl) rfl rfl⟩)⟩)
  ·rintro⟨⟩ rfl
   try dsimp only
   refine .sq ?_;refine .block ?_;obtain⟨v22,hp18,h⟩:=bind_some h;refine .cc (fun i=>v22=i) (fun(i:Int)=>[(0,ai (ak.int .i64) a1),(1,ai (ak.int .i64) a2),(5,D.own 2000005),(6,D.int .i64 i),(7,D.int .i64 v6)]) (fun(i:Int)=>[(2000005,aY (ak.int .i64) 3 v7)]) ?_ ?_
   ·have ho3:=h;have h:=hp18;refine .al (.mv rfl<|.mv rfl<|.ec rfl bK<|.cm rfl rfl rfl<|.nil) rfl ?_;by_cases c19:(decide (v6<(a1.length:Int)))=true
    ·replace h:=ab c19 h;refine .cl rfl c19 ?_;obtain⟨v20,e21,h⟩:=bind_some h;refine .region (.mv rfl<|.mv rfl<|.mv rfl<|.ll rfl rfl dX (af e21).1 (af e21).2<|.i6 rfl dQ<|.ar rfl rfl rfl<|.aq rfl<|.nil) rfl (fun _ _ hs=>⟨(IntKind.i64.wrap (v5+v20)),(sj h),hs.sub (.of rfl) (.of rfl) rfl rfl⟩)
    ·replace h:=aa c19 h;refine .cq rfl c19 ?_;refine .skip (fun _ _ hs=>⟨v5,(sj h),hs.sub (.of rfl) (.of rfl) rfl rfl⟩)
   ·rintro _ rfl
    try dsimp only
    obtain⟨v28,hp24,h⟩:=bind_some h;refine .cc (fun i=>v28=i) (fun(i:Int)=>[(0,ai (ak.int .i64) a1),(1,ai (ak.int .i64) a2),(5,D.own 2000005),(6,D.int .i64 i),(7,D.int .i64 v6)]) (fun(i:Int)=>[(2000005,aY (ak.int .i64) 3 v7)]) ?_ ?_
    ·have ho3:=h;have h:=hp24;refine .al (.mv rfl<|.mv rfl<|.ec rfl bK<|.cm rfl rfl rfl<|.nil) rfl ?_;by_cases c25:(decide (v6<(a2.length:Int)))=true
     ·replace h:=ab c25 h;refine .cl rfl c25 ?_;obtain⟨v26,e27,h⟩:=bind_some h;refine .region (.mv rfl<|.mv rfl<|.mv rfl<|.ll rfl rfl dX (af e27).1 (af e27).2<|.i6 rfl dQ<|.ar rfl rfl rfl<|.aq rfl<|.nil) rfl (fun _ _ hs=>⟨(IntKind.i64.wrap (v22+v26)),(sj h),hs.sub (.of rfl) (.of rfl) rfl rfl⟩)
     ·replace h:=aa c25 h;refine .cq rfl c25 ?_;refine .skip (fun _ _ hs=>⟨v22,(sj h),hs.sub (.of rfl) (.of rfl) rfl rfl⟩)
    ·rintro _ rfl
     try dsimp only
     refine .sl 5 rfl rfl rfl ?_;obtain⟨k29,h⟩:=av h;refine .al (.mv rfl<|.mv rfl<|.ar rfl rfl (tN (by decide))<|.Cx (e:=(ak.int .i64)) [(Int.tmod v28 10000)] [(0,_,D.int .i64 (Int.tmod v28 10000),[D.int .i64 (Int.tmod v28 10000)])] gZ rfl rfl rfl ⟨rfl,rfl,.one rfl,rfl,trivial⟩ ⟨rfl,trivial⟩ rfl rfl<|.Cg (ys:=[(Int.tmod v28 10000)]) rfl .sl rfl (.refl _) rfl gZ rfl k29.1 k29.2 rfl<|.aq rfl<|.nil) rfl ?_;refine .region (.mv rfl<|.ar rfl rfl (yf (by decide))<|.aq rfl<|.nil) rfl (Ok.on ?_);refine .region (.mv rfl<|.ar rfl rfl rfl<|.aq rfl<|.nil) rfl (fun _ _ hs=>⟨((IntKind.i64.wrap (Int.tdiv v28 10000)),(IntKind.i64.wrap (v6+1)),(v7++[(Int.tmod v28 10000)])),(sj h),hs.kz (fun r=>match r with|2000005=>48|r=>r) (.r rfl rfl<|.r rfl rfl<|.p rfl (.own (r:=2000005))<|.r rfl rfl<|.r rfl rfl<|trivial) (.r rfl rfl trivial) rfl rfl rfl⟩)
 ·rintro _ rfl
  try dsimp only
  refine .sl 5 rfl rfl rfl ?_;refine .al (.mv rfl<|.aq rfl<|.nil) rfl ?_;refine .sQ 4 (.own 2000005) rfl .sl ?_;refine .mD 4 rfl rfl rfl ?_;cases h;refine .aO (fun _ _ hb=>hb) rfl (.t1 (.tmp rfl)) (.refl _) trivial trivial
def gF(a1:List Int)(a2:List Int)(v5:Int)(v6:Int)(v7:List Int):Option (St (Int×Int×(List Int)) (List Int)):=(if(decide (v6<(a1.length:Int)))=true then(ix a1 v6).bind fun v13=>((if(decide (v6<(a2.length:Int)))=true then(ix a2 v6).bind fun v18=>some ((IntKind.i64.wrap ((IntKind.i64.wrap (v13-v5))-v18)))else some ((IntKind.i64.wrap (v13-v5))))).bind fun v20=>((if(decide (v20<0))=true then some ((1,(IntKind.i64.wrap (v20+10000))))else some ((0,v20)))).bind fun(v24,v25)=>cj ((v7.length+([v25]).length)*8<=140737488355328/\v7.length+([v25]).length<=9223372036854775807) (some (St.next (v24,(IntKind.i64.wrap (v6+1)),(v7++[v25]))))else some (St.done v7))
def jh(a1:List Int)(a2:List Int):Option (List Int):=((Loop (fun(s:Int×Int×(List Int))=>gF a1 a2 s.1 s.2.1 s.2.2) (0,0,[])).bind fun v27=>some (v27)).bind fun v28=>(jD v28).bind fun v29=>some v29
theorem oM{a1:List Int}{a2:List Int}{r31:List Int}(h:jh a1 a2=some r31):bf PP 219 [] [ai (ak.int .i64) a1,ai (ak.int .i64) a2] [] (ai (ak.int .i64) r31):=by
 unfold jh at h;refine .of Go.Proofs.Tryz.func219 rfl (by kernel_rfl) rfl rfl rfl rfl rfl rfl (fun A w0 L b=>?_);show Ok PP _ [(0,ai (ak.int .i64) a1),(1,ai (ak.int .i64) a2)] [] _ _;refine .al (.aq rfl<|.nil) rfl ?_;refine .al (.aq rfl<|.nil) rfl ?_;refine .al (.aq rfl<|.nil) rfl ?_;obtain⟨v28,hp4,h⟩:=bind_some h;refine .cc (fun i=>v28=i) (fun(i:(List Int))=>[(5,D.own 2000005)]) (fun(i:(List Int))=>[(2000005,aY (ak.int .i64) 3 i)]) ?_ ?_
 ·have ho1:=h;have h:=hp4;refine .al (.aq rfl<|.nil) rfl ?_;refine .jF (ak.int .i64) 5 2000005 3 rfl rfl ?_;obtain⟨o8,hl9,h⟩:=bind_some h;have ho2:=h;refine .block (.bU (fun(s:Int×Int×(List Int))=>[(0,ai (ak.int .i64) a1),(1,ai (ak.int .i64) a2),(5,D.own 2000005),(6,D.int .i64 s.1),(7,D.int .i64 s.2.1)]) (fun(s:Int×Int×(List Int))=>[(2000005,aY (ak.int .i64) 3 s.2.2)]) hl9 (.of rfl) (.of rfl) rfl rfl ?_);rintro⟨v5,v6,v7⟩ st10 hb11;have h:gF a1 a2 v5 v6 v7=some st10:=hb11;unfold gF at h
  try dsimp only
  refine .sq ?_;refine .al (.mv rfl<|.mv rfl<|.ec rfl bK<|.cm rfl rfl rfl<|.nil) rfl ?_;by_cases c12:(decide (v6<(a1.length:Int)))=true
  ·replace h:=ab c12 h;refine .cl rfl c12 ?_;refine .skip (Ok.on ?_);refine .sq ?_;refine .block ?_;obtain⟨v13,e14,h⟩:=bind_some h;refine .al (.mv rfl<|.mv rfl<|.ll rfl rfl dX (af e14).1 (af e14).2<|.i6 rfl dQ<|.mv rfl<|.ar rfl rfl rfl<|.aq rfl<|.nil) rfl ?_;obtain⟨v20,hp16,h⟩:=bind_some h;refine .cc (fun i=>v20=i) (fun(i:Int)=>[(0,ai (ak.int .i64) a1),(1,ai (ak.int .i64) a2),(5,D.own 2000005),(7,D.int .i64 v6),(8,D.int .i64 i)]) (fun(i:Int)=>[(2000005,aY (ak.int .i64) 3 v7)]) ?_ ?_
   ·have ho3:=h;have h:=hp16;refine .al (.mv rfl<|.mv rfl<|.ec rfl bK<|.cm rfl rfl rfl<|.nil) rfl ?_;by_cases c17:(decide (v6<(a2.length:Int)))=true
    ·replace h:=ab c17 h;refine .cl rfl c17 ?_;obtain⟨v18,e19,h⟩:=bind_some h;refine .region (.mv rfl<|.mv rfl<|.mv rfl<|.ll rfl rfl dX (af e19).1 (af e19).2<|.i6 rfl dQ<|.ar rfl rfl rfl<|.aq rfl<|.nil) rfl (fun _ _ hs=>⟨(IntKind.i64.wrap ((IntKind.i64.wrap (v13-v5))-v18)),(sj h),hs.sub (.of rfl) (.of rfl) rfl rfl⟩)
    ·replace h:=aa c17 h;refine .cq rfl c17 ?_;refine .skip (fun _ _ hs=>⟨(IntKind.i64.wrap (v13-v5)),(sj h),hs.sub (.of rfl) (.of rfl) rfl rfl⟩)
   ·rintro _ rfl
    try dsimp only
    refine .al (.aq rfl<|.nil) rfl ?_;obtain⟨o21,hp22,h⟩:=bind_some h;refine .cc (fun i=>o21=i) (fun(i:Int×Int)=>[(0,ai (ak.int .i64) a1),(1,ai (ak.int .i64) a2),(5,D.own 2000005),(6,D.int .i64 i.1),(7,D.int .i64 v6),(8,D.int .i64 i.2)]) (fun(i:Int×Int)=>[(2000005,aY (ak.int .i64) 3 v7)]) ?_ ?_
    ·have ho3:=h;have h:=hp22;refine .al (.mv rfl<|.cm rfl rfl rfl<|.nil) rfl ?_;by_cases c23:(decide (v20<0))=true
     ·replace h:=ab c23 h;refine .cl rfl c23 ?_;refine .al (.mv rfl<|.ar rfl rfl rfl<|.aq rfl<|.nil) rfl ?_;refine .region (.aq rfl<|.nil) rfl (fun _ _ hs=>⟨(1,(IntKind.i64.wrap (v20+10000))),(sj h),hs.sub (.of rfl) (.of rfl) rfl rfl⟩)
     ·replace h:=aa c23 h;refine .cq rfl c23 ?_;refine .skip (fun _ _ hs=>⟨(0,v20),(sj h),hs.sub (.of rfl) (.of rfl) rfl rfl⟩)
    ·rintro⟨v24,v25⟩ rfl
     try dsimp only
     refine .sl 5 rfl rfl rfl ?_;obtain⟨k26,h⟩:=av h;refine .region (.mv rfl<|.mv rfl<|.Cx (e:=(ak.int .i64)) [v25] [(0,_,D.int .i64 v25,[D.int .i64 v25])] gZ rfl rfl rfl ⟨rfl,rfl,.one rfl,rfl,trivial⟩ ⟨rfl,trivial⟩ rfl rfl<|.Cg (ys:=[v25]) rfl .sl rfl (.refl _) rfl gZ rfl k26.1 k26.2 rfl<|.aq rfl<|.nil) rfl (Ok.on ?_);refine .region (.mv rfl<|.ar rfl rfl rfl<|.aq rfl<|.nil) rfl (fun _ _ hs=>⟨(v24,(IntKind.i64.wrap (v6+1)),(v7++[v25])),(sj h),hs.kz (fun r=>match r with|2000005=>38|r=>r) (.r rfl rfl<|.r rfl rfl<|.p rfl (.own (r:=2000005))<|.r rfl rfl<|.r rfl rfl<|trivial) (.r rfl rfl trivial) rfl rfl rfl⟩)
  ·replace h:=aa c12 h;refine .cq rfl c12 ?_;refine .exit (fun a w hs=>⟨_,(sj h),fun e=>by subst e;have h:=ho2;exact aS (⟨v7,(sj h),hs.sub (.of rfl) (.of rfl) rfl rfl⟩)⟩)
 ·rintro _ rfl
  try dsimp only
  refine .sl 5 rfl rfl rfl ?_;refine .sQ 5 (.own 2000005) rfl .sl ?_;refine .mD 5 rfl rfl rfl ?_;obtain⟨v29,e30,h⟩:=bind_some h;refine .al (.mv rfl<|.ag (qH e30) ⟨rfl,trivial⟩ trivial trivial<|.aq rfl<|.nil) rfl ?_;cases h;refine .aO (fun _ _ hb=>hb) rfl (.t1 (.tmp rfl)) (.refl _) trivial trivial
def gj(a1:List Int)(a2:List Int)(v6:Int)(v15:Int)(v16:Int)(v17:List Int):Option (St (Int×Int×(List Int)) (List Int)):=((if(decide (v16<(a2.length:Int)))=true then some (Ex.cd ())else(if(decide (v15>0))=true then some (Ex.cd ())else some (Ex.ret ())))).bind fun o22=>(match o22 with|Ex.cd ()=>(ix v17 (IntKind.i64.wrap (v6+v16))).bind fun v26=>((if(decide (v16<(a2.length:Int)))=true then(ix a1 v6).bind fun v31=>(ix a2 v16).bind fun v33=>some ((IntKind.i64.wrap ((IntKind.i64.wrap (v26+v15))+(IntKind.i64.wrap (v31*v33)))))else some ((IntKind.i64.wrap (v26+v15))))).bind fun v35=>(ix v17 (IntKind.i64.wrap (v6+v16))).bind fun v36=>some (St.next ((IntKind.i64.wrap (Int.tdiv v35 10000)),(IntKind.i64.wrap (v16+1)),(v17.set (IntKind.i64.wrap (v6+v16)).toNat (Int.tmod v35 10000))))|Ex.ret ()=>some (St.done v17))
def jB(a1:List Int)(a2:List Int)(v6:Int)(v7:List Int):Option (St (Int×(List Int)) (List Int)):=(if(decide (v6<(a1.length:Int)))=true then((Loop (fun(s:Int×Int×(List Int))=>gj a1 a2 v6 s.1 s.2.1 s.2.2) (0,0,v7)).bind fun v38=>some (v38)).bind fun v39=>some (St.next ((IntKind.i64.wrap (v6+1)),v39))else some (St.done v7))
def kX(a1:List Int)(a2:List Int):Option (List Int):=cj ((0:Int)<=(IntKind.i64.wrap ((a1.length:Int)+(a2.length:Int)))/\(8:Int)*(IntKind.i64.wrap ((a1.length:Int)+(a2.length:Int)))<=281474976710656/\((IntKind.i64.wrap ((a1.length:Int)+(a2.length:Int))):Int)<=9223372036854775807) (((Loop (fun(s:Int×(List Int))=>jB a1 a2 s.1 s.2) (0,(List.replicate (IntKind.i64.wrap ((a1.length:Int)+(a2.length:Int))).toNat 0))).bind fun v40=>some (v40)).bind fun v41=>(jD v41).bind fun v42=>some v42)
theorem wi{a1:List Int}{a2:List Int}{r44:List Int}(h:kX a1 a2=some r44):bf PP 216 [] [ai (ak.int .i64) a1,ai (ak.int .i64) a2] [] (ai (ak.int .i64) r44):=by
 unfold kX at h;refine .of Go.Proofs.Tryz.func216 rfl (by kernel_rfl) rfl rfl rfl rfl rfl rfl (fun A w0 L b=>?_);show Ok PP _ [(0,ai (ak.int .i64) a1),(1,ai (ak.int .i64) a2)] [] _ _;refine .al (.aq rfl<|.nil) rfl ?_;obtain⟨k3,h⟩:=av h;refine .al (.mv rfl<|.ec rfl bK<|.mv rfl<|.ec rfl bK<|.ar rfl rfl rfl<|.Ju (e:=(ak.int .i64)) 0 rfl rfl gZ rfl ⟨.refl _,trivial⟩ k3.1 k3.2.1 k3.2.2 rfl<|.aq rfl<|.nil) rfl ?_;obtain⟨v41,hp5,h⟩:=bind_some h;refine .cc (fun i=>v41=i) (fun(i:(List Int))=>[(5,D.own 15)]) (fun(i:(List Int))=>[(15,aY (ak.int .i64) 3 i)]) ?_ ?_
 ·have ho1:=h;have h:=hp5;refine .al (.aq rfl<|.nil) rfl ?_;obtain⟨o8,hl9,h⟩:=bind_some h;have ho2:=h;refine .block (.bU (fun(s:Int×(List Int))=>[(0,ai (ak.int .i64) a1),(1,ai (ak.int .i64) a2),(5,D.own 15),(6,D.int .i64 s.1)]) (fun(s:Int×(List Int))=>[(15,aY (ak.int .i64) 3 s.2)]) hl9 (.of rfl) (.of rfl) rfl rfl ?_);rintro⟨v6,v7⟩ st10 hb11;have h:jB a1 a2 v6 v7=some st10:=hb11;unfold jB at h
  try dsimp only
  refine .sq ?_;refine .al (.mv rfl<|.mv rfl<|.ec rfl bK<|.cm rfl rfl rfl<|.nil) rfl ?_;by_cases c12:(decide (v6<(a1.length:Int)))=true
  ·replace h:=ab c12 h;refine .cl rfl c12 ?_;refine .skip (Ok.on ?_);obtain⟨v39,hp14,h⟩:=bind_some h;refine .cc (fun i=>v39=i) (fun(i:(List Int))=>[(0,ai (ak.int .i64) a1),(1,ai (ak.int .i64) a2),(5,D.own 15),(6,D.int .i64 v6)]) (fun(i:(List Int))=>[(15,aY (ak.int .i64) 3 i)]) ?_ ?_
   ·have ho3:=h;have h:=hp14;refine .block ?_;refine .al (.aq rfl<|.nil) rfl ?_;refine .al (.aq rfl<|.nil) rfl ?_;obtain⟨o18,hl19,h⟩:=bind_some h;have ho4:=h;refine .block (.bU (fun(s:Int×Int×(List Int))=>[(0,ai (ak.int .i64) a1),(1,ai (ak.int .i64) a2),(5,D.own 15),(6,D.int .i64 v6),(7,D.int .i64 s.1),(8,D.int .i64 s.2.1)]) (fun(s:Int×Int×(List Int))=>[(15,aY (ak.int .i64) 3 s.2.2)]) hl19 (.of rfl) (.of rfl) rfl rfl ?_);rintro⟨v15,v16,v17⟩ st20 hb21;have h:gj a1 a2 v6 v15 v16 v17=some st20:=hb21;unfold gj at h
    try dsimp only
    obtain⟨o22,hp23,h⟩:=bind_some h;refine .cc (fun i=>o22=Ex.cd i) (fun(i:Unit)=>[(0,ai (ak.int .i64) a1),(1,ai (ak.int .i64) a2),(5,D.own 15),(6,D.int .i64 v6),(7,D.int .i64 v15),(8,D.int .i64 v16)]) (fun(i:Unit)=>[(15,aY (ak.int .i64) 3 v17)]) ?_ ?_
    ·have ho5:=h;have h:=hp23;by_cases c24:(decide (v16<(a2.length:Int)))=true
     ·replace h:=ab c24 h;refine .al (.mv rfl<|.mv rfl<|.ec rfl bK<|.cm rfl rfl rfl<|.mv rfl<|.gk c24<|.gk c24<|.aX rfl c24 rfl<|.nil) rfl ?_;refine .cl rfl rfl ?_;refine .skip (fun _ _ hs=>⟨(),(sj h),hs.sub (.of rfl) (.of rfl) rfl rfl⟩)
     ·replace h:=aa c24 h;refine .al (.mv rfl<|.mv rfl<|.ec rfl bK<|.cm rfl rfl rfl<|.mv rfl<|.gz c24<|.mv rfl<|.gz c24<|.cm rfl rfl rfl<|.aT rfl c24 rfl<|.nil) rfl ?_;by_cases c25:(decide (v15>0))=true
      ·replace h:=ab c25 h;refine .cl rfl c25 ?_;refine .skip (fun _ _ hs=>⟨(),(sj h),hs.sub (.of rfl) (.of rfl) rfl rfl⟩)
      ·replace h:=aa c25 h;refine .cq rfl c25 ?_;cases h;have h:=ho5;refine .exit (fun a w hs=>⟨_,(sj h),fun e=>by subst e;have h:=ho4;exact aS (⟨v17,(sj h),hs.sub (.of rfl) (.of rfl) rfl rfl⟩)⟩)
    ·rintro⟨⟩ rfl
     try dsimp only
     refine .sq ?_;refine .block ?_;refine .sl 5 rfl rfl rfl ?_;obtain⟨v26,e27,h⟩:=bind_some h;refine .al (.mv rfl<|.mv rfl<|.mv rfl<|.ar rfl rfl rfl<|.ic rfl rfl dX (af e27).1 (by have:=dE e27;simpa using this)<|.JL rfl rfl dQ rfl (af e27).2 rfl<|.mv rfl<|.ar rfl rfl rfl<|.aq rfl<|.nil) rfl ?_;obtain⟨v35,hp29,h⟩:=bind_some h;refine .cc (fun i=>v35=i) (fun(i:Int)=>[(0,ai (ak.int .i64) a1),(1,ai (ak.int .i64) a2),(5,D.own 15),(6,D.int .i64 v6),(8,D.int .i64 v16),(9,D.int .i64 i)]) (fun(i:Int)=>[(15,aY (ak.int .i64) 3 v17)]) ?_ ?_
     ·have ho5:=h;have h:=hp29;refine .al (.mv rfl<|.mv rfl<|.ec rfl bK<|.cm rfl rfl rfl<|.nil) rfl ?_;by_cases c30:(decide (v16<(a2.length:Int)))=true
      ·replace h:=ab c30 h;refine .cl rfl c30 ?_;obtain⟨v31,e32,h⟩:=bind_some h;obtain⟨v33,e34,h⟩:=bind_some h;refine .c_ cf (.mv rfl<|.mv rfl<|.mv rfl<|.ll rfl rfl dX (af e32).1 (af e32).2<|.i6 rfl dQ<|.mv rfl<|.mv rfl<|.ll rfl rfl dX (af e34).1 (af e34).2<|.i6 rfl dQ<|.ar rfl rfl rfl<|.ar rfl rfl rfl<|.aq rfl<|.nil) rfl (by kernel_rfl) (fun _ _ hs=>⟨(IntKind.i64.wrap ((IntKind.i64.wrap (v26+v15))+(IntKind.i64.wrap (v31*v33)))),(sj h),hs.sub (.k rfl<|.k rfl<|.p rfl .sl<|.k rfl<|.k rfl<|.k rfl<|trivial) (.of rfl) rfl rfl⟩)
      ·replace h:=aa c30 h;refine .cq rfl c30 ?_;refine .skip (fun _ _ hs=>⟨(IntKind.i64.wrap (v26+v15)),(sj h),hs.sub (.k rfl<|.k rfl<|.p rfl .sl<|.k rfl<|.k rfl<|.k rfl<|trivial) (.of rfl) rfl rfl⟩)
     ·rintro _ rfl
      try dsimp only
      refine .sl 5 rfl rfl rfl ?_;obtain⟨v36,e37,h⟩:=bind_some h;refine .al (.mv rfl<|.mv rfl<|.mv rfl<|.ar rfl rfl rfl<|.mv rfl<|.ar rfl rfl (tN (by decide))<|.ic rfl rfl dX (af e37).1 (by have:=dE e37;simpa using this)<|.FU (Int.tmod v35 10000) rfl rfl rfl dQ rfl rfl rfl rfl (bn e37)<|.nil) rfl ?_;refine .region (.mv rfl<|.ar rfl rfl (yf (by decide))<|.aq rfl<|.nil) rfl (Ok.on ?_);refine .region (.mv rfl<|.ar rfl rfl rfl<|.aq rfl<|.nil) rfl (fun _ _ hs=>⟨((IntKind.i64.wrap (Int.tdiv v35 10000)),(IntKind.i64.wrap (v16+1)),(v17.set (IntKind.i64.wrap (v6+v16)).toNat (Int.tmod v35 10000))),(sj h),hs.sub (.k rfl<|.k rfl<|.p rfl .sl<|.k rfl<|.k rfl<|.k rfl<|trivial) (.of rfl) rfl rfl⟩)
   ·rintro _ rfl
    try dsimp only
    refine .region (.mv rfl<|.ar rfl rfl rfl<|.aq rfl<|.nil) rfl (fun _ _ hs=>⟨((IntKind.i64.wrap (v6+1)),v39),(sj h),hs.sub (.of rfl) (.of rfl) rfl rfl⟩)
  ·replace h:=aa c12 h;refine .cq rfl c12 ?_;refine .exit (fun a w hs=>⟨_,(sj h),fun e=>by subst e;have h:=ho2;exact aS (⟨v7,(sj h),hs.sub (.of rfl) (.of rfl) rfl rfl⟩)⟩)
 ·rintro _ rfl
  try dsimp only
  refine .sl 5 rfl rfl rfl ?_;refine .sQ 5 (.own 15) rfl .sl ?_;refine .mD 5 rfl rfl rfl ?_;obtain⟨v42,e43,h⟩:=bind_some h;refine .al (.mv rfl<|.ag (qH e43) ⟨rfl,trivial⟩ trivial trivial<|.aq rfl<|.nil) rfl ?_;cases h;refine .aO (fun _ _ hb=>hb) rfl (.t1 (.tmp rfl)) (.refl _) trivial trivial
def gh(a1:List Int)(a2:Int)(v5:Int)(v6:Int):Option (St (Int×Int) Int):=(if(decide (v6>=a2))=true then(ix a1 v6).bind fun v12=>some (St.next ((IntKind.i64.wrap ((IntKind.i64.wrap (v5*10000))+v12)),(IntKind.i64.wrap (v6-1))))else some (St.done v5))
def fJ(a1:List Int)(a2:Int):Option Int:=((Loop (fun(s:Int×Int)=>gh a1 a2 s.1 s.2) (0,(IntKind.i64.wrap ((a1.length:Int)-1)))).bind fun v14=>some (v14)).bind fun v15=>some v15
theorem sX{a1:List Int}{a2:Int}{r16:Int}(h:fJ a1 a2=some r16):bf PP 250 [] [ai (ak.int .i64) a1,D.int .i64 a2] [] (D.int .i64 r16):=by
 unfold fJ at h;refine .of Go.Proofs.Tryz.func250 rfl (by kernel_rfl) rfl rfl rfl rfl rfl rfl (fun A w0 L b=>?_);show Ok PP _ [(0,ai (ak.int .i64) a1),(1,D.int .i64 a2)] [] _ _;refine .al (.aq rfl<|.nil) rfl ?_;refine .al (.aq rfl<|.nil) rfl ?_;obtain⟨v15,hp4,h⟩:=bind_some h;refine .cc (fun i=>v15=i) (fun(i:Int)=>[(5,D.int .i64 i)]) (fun(i:Int)=>[]) ?_ ?_
 ·have ho1:=h;have h:=hp4;refine .al (.mv rfl<|.ec rfl bK<|.ar rfl rfl rfl<|.aq rfl<|.nil) rfl ?_;obtain⟨o7,hl8,h⟩:=bind_some h;have ho2:=h;refine .block (.bU (fun(s:Int×Int)=>[(0,ai (ak.int .i64) a1),(1,D.int .i64 a2),(5,D.int .i64 s.1),(6,D.int .i64 s.2)]) (fun(s:Int×Int)=>[]) hl8 (.of rfl) trivial rfl rfl ?_);rintro⟨v5,v6⟩ st9 hb10;have h:gh a1 a2 v5 v6=some st9:=hb10;unfold gh at h
  try dsimp only
  refine .sq ?_;refine .al (.mv rfl<|.mv rfl<|.cm rfl rfl rfl<|.nil) rfl ?_;by_cases c11:(decide (v6>=a2))=true
  ·replace h:=ab c11 h;refine .cl rfl c11 ?_;refine .skip (Ok.on ?_);refine .sq ?_;refine .block ?_;obtain⟨v12,e13,h⟩:=bind_some h;refine .region (.mv rfl<|.ar rfl rfl rfl<|.mv rfl<|.mv rfl<|.ll rfl rfl dX (af e13).1 (af e13).2<|.i6 rfl dQ<|.ar rfl rfl rfl<|.aq rfl<|.nil) rfl (Ok.on ?_);refine .region (.mv rfl<|.ar rfl rfl rfl<|.aq rfl<|.nil) rfl (fun _ _ hs=>⟨((IntKind.i64.wrap ((IntKind.i64.wrap (v5*10000))+v12)),(IntKind.i64.wrap (v6-1))),(sj h),hs.sub (.of rfl) trivial rfl rfl⟩)
  ·replace h:=aa c11 h;refine .cq rfl c11 ?_;refine .exit (fun a w hs=>⟨_,(sj h),fun e=>by subst e;have h:=ho2;exact aS (⟨v5,(sj h),hs.sub (.of rfl) trivial rfl rfl⟩)⟩)
 ·rintro _ rfl
  try dsimp only
  refine .al (.mv rfl<|.aq rfl<|.nil) rfl ?_;cases h;refine .aO (fun _ _ hb=>hb) rfl (.t1 (.tmp rfl)) (.refl _) trivial trivial
def jk(a2:List Int)(v41:List Int)(v42:Int):Option (St ((List Int)×Int) ((List Int)×Int)):=(kU v41 a2).bind fun v47=>(if(decide (v47>=0))=true then(jh v41 a2).bind fun v50=>some (St.next (v50,(IntKind.i64.wrap (v42+1))))else some (St.done (v41,v42)))
def iy(a1:List Int)(a2:List Int)(v6:List Int)(v7:Int)(v8:List Int):Option (St ((List Int)×Int×(List Int)) ((List Int)×(List Int))):=(if(decide (v7>=0))=true then(ix a1 v7).bind fun v14=>cj ((([v14]).length+v6.length)*8<=140737488355328/\([v14]).length+v6.length<=9223372036854775807) ((jD ([v14]++v6)).bind fun v17=>((if(decide ((a2.length:Int)<=3))=true then(fJ v17 0).bind fun v22=>(fJ a2 0).bind fun v24=>cj ((v24:Int)≠0) (some ((IntKind.i64.wrap (Int.tdiv v22 v24))))else(if(decide ((v17.length:Int)>=(a2.length:Int)))=true then(fJ v17 (IntKind.i64.wrap ((a2.length:Int)-3))).bind fun v28=>(fJ a2 (IntKind.i64.wrap ((a2.length:Int)-3))).bind fun v30=>cj (((IntKind.i64.wrap (v30+1)):Int)≠0) (some ((IntKind.i64.wrap (Int.tdiv v28 (IntKind.i64.wrap (v30+1))))))else some (0)))).bind fun v33=>(fQ v33).bind fun(v34,v35)=>(kX a2 v35).bind fun v37=>(jh v17 v37).bind fun v39=>(Loop (fun(s:(List Int)×Int)=>jk a2 s.1 s.2) (v39,v33)).bind fun(v52,v53)=>(ix v8 v7).bind fun v54=>some (St.next (v52,(IntKind.i64.wrap (v7-1)),(v8.set v7.toNat v53))))else some (St.done (v6,v8)))
def lk(a1:List Int)(a2:List Int):Option ((List Int)×(List Int)):=cj ((0:Int)<=(a1.length:Int)/\(8:Int)*(a1.length:Int)<=281474976710656/\((a1.length:Int):Int)<=9223372036854775807) (((Loop (fun(s:(List Int)×Int×(List Int))=>iy a1 a2 s.1 s.2.1 s.2.2) ([],(IntKind.i64.wrap ((a1.length:Int)-1)),(List.replicate (a1.length:Int).toNat 0))).bind fun(v56,v57)=>some ((v56,v57))).bind fun(v58,v59)=>(jD v59).bind fun v60=>some (v60,v58))
theorem tT{a1:List Int}{a2:List Int}{r62:List Int}{r63:List Int}(h:lk a1 a2=some (r62,r63)):bf PP 221 [] [ai (ak.int .i64) a1,ai (ak.int .i64) a2] [] (D.ig [ai (ak.int .i64) r62,ai (ak.int .i64) r63]):=by
 unfold lk at h;refine .of Go.Proofs.Tryz.func221 rfl (by kernel_rfl) rfl rfl rfl rfl rfl rfl (fun A w0 L b=>?_);show Ok PP _ [(0,ai (ak.int .i64) a1),(1,ai (ak.int .i64) a2)] [] _ _;refine .al (.aq rfl<|.aq rfl<|.nil) rfl ?_;refine .al (.aq rfl<|.nil) rfl ?_;obtain⟨k3,h⟩:=av h;refine .al (.mv rfl<|.ec rfl bK<|.Ju (e:=(ak.int .i64)) 0 rfl rfl gZ rfl ⟨.refl _,trivial⟩ k3.1 k3.2.1 k3.2.2 rfl<|.aq rfl<|.nil) rfl ?_;obtain⟨o4,hp5,h⟩:=bind_some h;refine .cc (fun i=>o4=i) (fun(i:(List Int)×(List Int))=>[(6,ai (ak.int .i64) i.1),(7,D.own 12)]) (fun(i:(List Int)×(List Int))=>[(12,aY (ak.int .i64) 3 i.2)]) ?_ ?_
 ·have ho1:=h;have h:=hp5;refine .al (.mv rfl<|.ec rfl bK<|.ar rfl rfl rfl<|.aq rfl<|.nil) rfl ?_;obtain⟨o9,hl10,h⟩:=bind_some h;have ho2:=h;refine .block (.bU (fun(s:(List Int)×Int×(List Int))=>[(0,ai (ak.int .i64) a1),(1,ai (ak.int .i64) a2),(6,ai (ak.int .i64) s.1),(7,D.own 12),(8,D.int .i64 s.2.1)]) (fun(s:(List Int)×Int×(List Int))=>[(12,aY (ak.int .i64) 3 s.2.2)]) hl10 (.k rfl<|.k rfl<|.p rfl (.jF _)<|.k rfl<|.k rfl<|trivial) (.of rfl) rfl rfl ?_);rintro⟨v6,v7,v8⟩ st11 hb12;have h:iy a1 a2 v6 v7 v8=some st11:=hb12;unfold iy at h
  try dsimp only
  refine .sq ?_;refine .al (.mv rfl<|.cm rfl rfl rfl<|.nil) rfl ?_;by_cases c13:(decide (v7>=0))=true
  ·replace h:=ab c13 h;refine .cl rfl c13 ?_;refine .skip (Ok.on ?_);refine .sq ?_;refine .block ?_;obtain⟨v14,e15,h⟩:=bind_some h;obtain⟨k16,h⟩:=av h;obtain⟨v17,e18,h⟩:=bind_some h;refine .al (.mv rfl<|.mv rfl<|.ll rfl rfl dX (af e15).1 (af e15).2<|.i6 rfl dQ<|.KN (e:=(ak.int .i64)) [v14] [(0,_,D.int .i64 v14,[D.int .i64 v14])] gZ rfl rfl rfl ⟨rfl,rfl,.one rfl,rfl,trivial⟩ ⟨rfl,trivial⟩ rfl rfl rfl<|.mv rfl<|.gv (e:=(ak.int .i64)) (xs:=([v14]++v6)) (.Cg (ys:=v6) rfl (.refl _) rfl (.refl _) rfl gZ rfl k16.1 k16.2 rfl<|.nil) rfl rfl rfl rfl<|.ag (qH e18) ⟨rfl,trivial⟩ trivial trivial<|.aq rfl<|.nil) rfl ?_;refine .al (.aq rfl<|.nil) rfl ?_;obtain⟨v33,hp20,h⟩:=bind_some h;refine .cc (fun i=>v33=i) (fun(i:Int)=>[(0,ai (ak.int .i64) a1),(1,ai (ak.int .i64) a2),(6,ai (ak.int .i64) v17),(7,D.own 12),(8,D.int .i64 v7),(9,D.int .i64 i)]) (fun(i:Int)=>[(12,aY (ak.int .i64) 3 v8)]) ?_ ?_
   ·have ho3:=h;have h:=hp20;refine .al (.mv rfl<|.ec rfl bK<|.cm rfl rfl rfl<|.nil) rfl ?_;by_cases c21:(decide ((a2.length:Int)<=3))=true
    ·replace h:=ab c21 h;refine .cl rfl c21 ?_;obtain⟨v22,e23,h⟩:=bind_some h;obtain⟨v24,e25,h⟩:=bind_some h;obtain⟨k26,h⟩:=av h;refine .region (.mv rfl<|.ag (sX e23) ⟨rfl,rfl,trivial⟩ trivial trivial<|.mv rfl<|.ag (sX e25) ⟨rfl,rfl,trivial⟩ trivial trivial<|.ar rfl rfl (yf k26)<|.aq rfl<|.nil) rfl (fun _ _ hs=>⟨(IntKind.i64.wrap (Int.tdiv v22 v24)),(sj h),hs.sub (.of rfl) (.of rfl) rfl rfl⟩)
    ·replace h:=aa c21 h;refine .cq rfl c21 ?_;refine .al (.mv rfl<|.ec rfl bK<|.mv rfl<|.ec rfl bK<|.cm rfl rfl rfl<|.nil) rfl ?_;by_cases c27:(decide ((v17.length:Int)>=(a2.length:Int)))=true
     ·replace h:=ab c27 h;refine .cl rfl c27 ?_;obtain⟨v28,e29,h⟩:=bind_some h;obtain⟨v30,e31,h⟩:=bind_some h;obtain⟨k32,h⟩:=av h;refine .region (.mv rfl<|.mv rfl<|.ec rfl bK<|.ar rfl rfl rfl<|.ag (sX e29) ⟨rfl,rfl,trivial⟩ trivial trivial<|.mv rfl<|.mv rfl<|.ec rfl bK<|.ar rfl rfl rfl<|.ag (sX e31) ⟨rfl,rfl,trivial⟩ trivial trivial<|.ar rfl rfl rfl<|.ar rfl rfl (yf k32)<|.aq rfl<|.nil) rfl (fun _ _ hs=>⟨(IntKind.i64.wrap (Int.tdiv v28 (IntKind.i64.wrap (v30+1)))),(sj h),hs.sub (.of rfl) (.of rfl) rfl rfl⟩)
     ·replace h:=aa c27 h;refine .cq rfl c27 ?_;refine .skip (fun _ _ hs=>⟨0,(sj h),hs.sub (.of rfl) (.of rfl) rfl rfl⟩)
   ·rintro _ rfl
    try dsimp only
    obtain⟨⟨v34,v35⟩,e36,h⟩:=bind_some h;obtain⟨v37,e38,h⟩:=bind_some h;obtain⟨v39,e40,h⟩:=bind_some h;refine .al (.mv rfl<|.mv rfl<|.mv rfl<|.ag (lM e36) ⟨rfl,trivial⟩ trivial trivial<|.KE rfl aH (t:=33) (by kernel_rfl) cH rfl<|.ag (wi e38) ⟨rfl,rfl,trivial⟩ trivial trivial<|.ag (oM e40) ⟨rfl,rfl,trivial⟩ trivial trivial<|.aq rfl<|.nil) rfl ?_;obtain⟨o43,hl44,h⟩:=bind_some h;refine .cc (fun i=>o43=i) (fun(i:(List Int)×Int)=>[(0,ai (ak.int .i64) a1),(1,ai (ak.int .i64) a2),(6,ai (ak.int .i64) i.1),(7,D.own 12),(8,D.int .i64 v7),(9,D.int .i64 i.2)]) (fun(i:(List Int)×Int)=>[(12,aY (ak.int .i64) 3 v8)]) ?_ ?_
    ·have ho3:=h;refine .block (.bU (fun(s:(List Int)×Int)=>[(0,ai (ak.int .i64) a1),(1,ai (ak.int .i64) a2),(6,ai (ak.int .i64) s.1),(7,D.own 12),(8,D.int .i64 v7),(9,D.int .i64 s.2)]) (fun(s:(List Int)×Int)=>[(12,aY (ak.int .i64) 3 v8)]) hl44 (.of rfl) (.of rfl) rfl rfl ?_);rintro⟨v41,v42⟩ st45 hb46;have h:jk a2 v41 v42=some st45:=hb46;unfold jk at h
     try dsimp only
     refine .sq ?_;obtain⟨v47,e48,h⟩:=bind_some h;refine .al (.mv rfl<|.mv rfl<|.ag (sZ e48) ⟨rfl,rfl,trivial⟩ trivial trivial<|.cm rfl rfl rfl<|.nil) rfl ?_;by_cases c49:(decide (v47>=0))=true
     ·replace h:=ab c49 h;refine .cl rfl c49 ?_;refine .skip (Ok.on ?_);refine .block ?_;obtain⟨v50,e51,h⟩:=bind_some h;refine .al (.mv rfl<|.mv rfl<|.ag (oM e51) ⟨rfl,rfl,trivial⟩ trivial trivial<|.aq rfl<|.nil) rfl ?_;refine .region (.mv rfl<|.ar rfl rfl rfl<|.aq rfl<|.nil) rfl (fun _ _ hs=>⟨(v50,(IntKind.i64.wrap (v42+1))),(sj h),hs.sub (.of rfl) (.of rfl) rfl rfl⟩)
     ·replace h:=aa c49 h;refine .cq rfl c49 ?_;refine .exit (fun _ _ hs=>⟨_,(sj h),fun e=>⟨(v41,v42),e.symm,hs.sub (.of rfl) (.of rfl) rfl rfl⟩⟩)
    ·rintro⟨v52,v53⟩ rfl
     try dsimp only
     refine .sl 7 rfl rfl rfl ?_;obtain⟨v54,e55,h⟩:=bind_some h;refine .region (.mv rfl<|.mv rfl<|.mv rfl<|.ic rfl rfl dX (af e55).1 (by have:=dE e55;simpa using this)<|.FU v53 rfl rfl rfl dQ rfl rfl rfl rfl (bn e55)<|.nil) rfl (Ok.on ?_);refine .region (.mv rfl<|.ar rfl rfl rfl<|.aq rfl<|.nil) rfl (fun _ _ hs=>⟨(v52,(IntKind.i64.wrap (v7-1)),(v8.set v7.toNat v53)),(sj h),hs.sub (.k rfl<|.k rfl<|.k rfl<|.p rfl .sl<|.k rfl<|trivial) (.of rfl) rfl rfl⟩)
  ·replace h:=aa c13 h;refine .cq rfl c13 ?_;refine .exit (fun a w hs=>⟨_,(sj h),fun e=>by subst e;have h:=ho2;exact aS (⟨(v6,v8),(sj h),hs.sub (.of rfl) (.of rfl) rfl rfl⟩)⟩)
 ·rintro⟨v58,v59⟩ rfl
  try dsimp only
  refine .sl 7 rfl rfl rfl ?_;refine .sQ 7 (.own 12) rfl .sl ?_;refine .mD 7 rfl rfl rfl ?_;obtain⟨v60,e61,h⟩:=bind_some h;refine .al (.mv rfl<|.ag (qH e61) ⟨rfl,trivial⟩ trivial trivial<|.mv rfl<|.aq rfl<|.aq rfl<|.nil) rfl ?_;cases h;refine .aO (fun _ _ hb=>hb) rfl (.cons (.tmp rfl) (.t1 (.tmp rfl))) (.refl _) trivial trivial
def eG(a1:Bool)(a2:List Int):Option (Bool×(List Int)):=(if a1=true then some ((decide ((a2.length:Int)>0)),a2)else some (false,a2))
theorem i9{a1:Bool}{a2:List Int}{r4:Bool}{r5:List Int}(h:eG a1 a2=some (r4,r5)):bf PP 181 [] [D.bool a1,ai (ak.int .i64) a2] [] (D.agg ([D.bool r4,ai (ak.int .i64) r5])):=by
 unfold eG at h;refine .of Go.Proofs.Tryz.func181 rfl (by kernel_rfl) rfl rfl rfl rfl rfl rfl (fun A w0 L b=>?_);show Ok PP _ [(0,D.bool a1),(1,ai (ak.int .i64) a2)] [] _ _;refine .al (.fN ([D.bool false,D.nil]) cn ⟨.refl _,.refl _,trivial⟩ rfl<|.nil) rfl ?_;by_cases c3:a1=true
 ·replace h:=ab c3 h;refine .al (.mv rfl<|.mv rfl<|.gy c3<|.mv rfl<|.gy c3<|.ec rfl bK<|.gy c3<|.cm rfl rfl rfl<|.aX rfl c3 rfl<|.mv rfl<|.n_ ([D.bool (decide ((a2.length:Int)>0)),ai (ak.int .i64) a2]) [(0,_,D.bool (decide ((a2.length:Int)>0)),[D.bool (decide ((a2.length:Int)>0))]),(1,_,ai (ak.int .i64) a2,[ai (ak.int .i64) a2])] cn fu ⟨rfl,rfl,.one rfl,rfl,rfl,rfl,.one rfl,rfl,trivial⟩ ⟨rfl,rfl,trivial⟩ ⟨.refl _,.refl _,trivial⟩<|.cU ([D.bool (decide ((a2.length:Int)>0)),ai (ak.int .i64) a2]) rfl rfl rfl ax rfl rfl rfl<|.nil) rfl ?_;cases h;refine .aO (fun _ _ hb=>hb) rfl (.cons (.agg rfl rfl ax rfl) .nil) (.refl _) trivial trivial
 ·replace h:=aa c3 h;refine .al (.mv rfl<|.mv rfl<|.gm c3<|.gm c3<|.gm c3<|.aT rfl c3 rfl<|.mv rfl<|.n_ ([D.bool false,ai (ak.int .i64) a2]) [(0,_,D.bool false,[D.bool false]),(1,_,ai (ak.int .i64) a2,[ai (ak.int .i64) a2])] cn fu ⟨rfl,rfl,.one rfl,rfl,rfl,rfl,.one rfl,rfl,trivial⟩ ⟨rfl,rfl,trivial⟩ ⟨.refl _,.refl _,trivial⟩<|.cU ([D.bool false,ai (ak.int .i64) a2]) rfl rfl rfl ax rfl rfl rfl<|.nil) rfl ?_;cases h;refine .aO (fun _ _ hb=>hb) rfl (.cons (.agg rfl rfl ax rfl) .nil) (.refl _) trivial trivial
def lC(a1:Bool)(a2:List Int):Option (Bool×(List Int)):=(eG (!a1) a2).bind fun(v3,v4)=>some (v3,v4)
theorem uC{a1:Bool}{a2:List Int}{r6:Bool}{r7:List Int}(h:lC a1 a2=some (r6,r7)):bf PP 160 [] [D.agg ([D.bool a1,ai (ak.int .i64) a2])] [] (D.agg ([D.bool r6,ai (ak.int .i64) r7])):=by
 unfold lC at h;refine .of Go.Proofs.Tryz.func160 rfl (by kernel_rfl) rfl rfl rfl rfl rfl rfl (fun A w0 L b=>?_);show Ok PP _ [(0,D.agg ([D.bool a1,ai (ak.int .i64) a2]))] [] _ _;refine .al (.iP rfl rfl<|.fN ([D.bool false,D.nil]) cn ⟨.refl _,.refl _,trivial⟩ rfl<|.nil) rfl ?_;obtain⟨⟨v3,v4⟩,e5,h⟩:=bind_some h;refine .al (.fa rfl bL<|.bu (D.bool a1) rfl rfl bT rfl<|.not rfl<|.fa rfl aH<|.bu (ai (ak.int .i64) a2) rfl rfl cH rfl<|.ag (i9 e5) ⟨rfl,rfl,trivial⟩ trivial trivial<|.cU ([D.bool v3,ai (ak.int .i64) v4]) rfl rfl rfl ax rfl rfl rfl<|.nil) rfl ?_;cases h;refine .aO (fun _ _ hb=>hb) rfl (.cons (.agg rfl rfl ax rfl) .nil) (.refl _) trivial trivial
def oi(a1:Bool)(a2:List Int)(a3:Bool)(a4:List Int):Option (Bool×(List Int)):=(if(a1==a3)=true then(nT a2 a4).bind fun v6=>(eG a1 v6).bind fun(v8,v9)=>some (v8,v9)else(kU a2 a4).bind fun v11=>(if(decide (v11>=0))=true then(jh a2 a4).bind fun v14=>(eG a1 v14).bind fun(v16,v17)=>some (v16,v17)else(jh a4 a2).bind fun v19=>(eG a3 v19).bind fun(v21,v22)=>some (v21,v22)))
theorem ET{a1:Bool}{a2:List Int}{a3:Bool}{a4:List Int}{r24:Bool}{r25:List Int}(h:oi a1 a2 a3 a4=some (r24,r25)):bf PP 159 [] [D.agg ([D.bool a1,ai (ak.int .i64) a2]),D.agg ([D.bool a3,ai (ak.int .i64) a4])] [] (D.agg ([D.bool r24,ai (ak.int .i64) r25])):=by
 unfold oi at h;refine .of Go.Proofs.Tryz.func159 rfl (by kernel_rfl) rfl rfl rfl rfl rfl rfl (fun A w0 L b=>?_);show Ok PP _ [(0,D.agg ([D.bool a1,ai (ak.int .i64) a2])),(1,D.agg ([D.bool a3,ai (ak.int .i64) a4]))] [] _ _;refine .al (.iP rfl rfl<|.iP rfl rfl<|.fN ([D.bool false,D.nil]) cn ⟨.refl _,.refl _,trivial⟩ rfl<|.nil) rfl ?_;refine .sq ?_;refine .al (.fa rfl bL<|.bu (D.bool a1) rfl rfl bT rfl<|.fa rfl bL<|.bu (D.bool a3) rfl rfl bT rfl<|.bc i5 rfl rfl rfl<|.nil) rfl ?_;by_cases c5:(a1==a3)=true
 ·replace h:=ab c5 h;refine .cl rfl c5 ?_;obtain⟨v6,e7,h⟩:=bind_some h;obtain⟨⟨v8,v9⟩,e10,h⟩:=bind_some h;refine .cZ cf (.fa rfl bL<|.bu (D.bool a1) rfl rfl bT rfl<|.fa rfl aH<|.bu (ai (ak.int .i64) a2) rfl rfl cH rfl<|.fa rfl aH<|.bu (ai (ak.int .i64) a4) rfl rfl cH rfl<|.ag (Da e7) ⟨rfl,rfl,trivial⟩ trivial trivial<|.ag (i9 e10) ⟨rfl,rfl,trivial⟩ trivial trivial<|.cU ([D.bool v8,ai (ak.int .i64) v9]) rfl rfl rfl ax rfl rfl rfl<|.nil) rfl (by kernel_rfl) ?_;cases h;refine .aO (fun _ _ hb=>hb) rfl (.cons (.agg rfl rfl ax rfl) .nil) (.refl _) trivial trivial
 ·replace h:=aa c5 h;refine .cq rfl c5 ?_;refine .skip (Ok.on ?_);refine .sq ?_;obtain⟨v11,e12,h⟩:=bind_some h;refine .al (.fa rfl aH<|.bu (ai (ak.int .i64) a2) rfl rfl cH rfl<|.fa rfl aH<|.bu (ai (ak.int .i64) a4) rfl rfl cH rfl<|.ag (sZ e12) ⟨rfl,rfl,trivial⟩ trivial trivial<|.cm rfl rfl rfl<|.nil) rfl ?_;by_cases c13:(decide (v11>=0))=true
  ·replace h:=ab c13 h;refine .cl rfl c13 ?_;obtain⟨v14,e15,h⟩:=bind_some h;obtain⟨⟨v16,v17⟩,e18,h⟩:=bind_some h;refine .cZ cf (.fa rfl bL<|.bu (D.bool a1) rfl rfl bT rfl<|.fa rfl aH<|.bu (ai (ak.int .i64) a2) rfl rfl cH rfl<|.fa rfl aH<|.bu (ai (ak.int .i64) a4) rfl rfl cH rfl<|.ag (oM e15) ⟨rfl,rfl,trivial⟩ trivial trivial<|.ag (i9 e18) ⟨rfl,rfl,trivial⟩ trivial trivial<|.cU ([D.bool v16,ai (ak.int .i64) v17]) rfl rfl rfl ax rfl rfl rfl<|.nil) rfl (by kernel_rfl) ?_;cases h;refine .aO (fun _ _ hb=>hb) rfl (.cons (.agg rfl rfl ax rfl) .nil) (.refl _) trivial trivial
  ·replace h:=aa c13 h;refine .cq rfl c13 ?_;refine .skip (Ok.on ?_);obtain⟨v19,e20,h⟩:=bind_some h;obtain⟨⟨v21,v22⟩,e23,h⟩:=bind_some h;refine .cZ cf (.fa rfl bL<|.bu (D.bool a3) rfl rfl bT rfl<|.fa rfl aH<|.bu (ai (ak.int .i64) a4) rfl rfl cH rfl<|.fa rfl aH<|.bu (ai (ak.int .i64) a2) rfl rfl cH rfl<|.ag (oM e20) ⟨rfl,rfl,trivial⟩ trivial trivial<|.ag (i9 e23) ⟨rfl,rfl,trivial⟩ trivial trivial<|.cU ([D.bool v21,ai (ak.int .i64) v22]) rfl rfl rfl ax rfl rfl rfl<|.nil) rfl (by kernel_rfl) ?_;cases h;refine .aO (fun _ _ hb=>hb) rfl (.cons (.agg rfl rfl ax rfl) .nil) (.refl _) trivial trivial
def ff(a1:Bool)(a2:List Int)(a3:Bool)(a4:List Int):Option (Bool×(List Int)):=(kX a2 a4).bind fun v5=>(eG (!(a1==a3)) v5).bind fun(v7,v8)=>some (v7,v8)
theorem jn{a1:Bool}{a2:List Int}{a3:Bool}{a4:List Int}{r10:Bool}{r11:List Int}(h:ff a1 a2 a3 a4=some (r10,r11)):bf PP 158 [] [D.agg ([D.bool a1,ai (ak.int .i64) a2]),D.agg ([D.bool a3,ai (ak.int .i64) a4])] [] (D.agg ([D.bool r10,ai (ak.int .i64) r11])):=by
 unfold ff at h;refine .of Go.Proofs.Tryz.func158 rfl (by kernel_rfl) rfl rfl rfl rfl rfl rfl (fun A w0 L b=>?_);show Ok PP _ [(0,D.agg ([D.bool a1,ai (ak.int .i64) a2])),(1,D.agg ([D.bool a3,ai (ak.int .i64) a4]))] [] _ _;refine .al (.iP rfl rfl<|.iP rfl rfl<|.fN ([D.bool false,D.nil]) cn ⟨.refl _,.refl _,trivial⟩ rfl<|.nil) rfl ?_;obtain⟨v5,e6,h⟩:=bind_some h;obtain⟨⟨v7,v8⟩,e9,h⟩:=bind_some h;refine .cZ cf (.fa rfl bL<|.bu (D.bool a1) rfl rfl bT rfl<|.fa rfl bL<|.bu (D.bool a3) rfl rfl bT rfl<|.bc i5 rfl rfl rfl<|.fa rfl aH<|.bu (ai (ak.int .i64) a2) rfl rfl cH rfl<|.fa rfl aH<|.bu (ai (ak.int .i64) a4) rfl rfl cH rfl<|.ag (wi e6) ⟨rfl,rfl,trivial⟩ trivial trivial<|.ag (i9 e9) ⟨rfl,rfl,trivial⟩ trivial trivial<|.cU ([D.bool v7,ai (ak.int .i64) v8]) rfl rfl rfl ax rfl rfl rfl<|.nil) rfl (by kernel_rfl) ?_;cases h;refine .aO (fun _ _ hb=>hb) rfl (.cons (.agg rfl rfl ax rfl) .nil) (.refl _) trivial trivial
def lN(a1:Bool)(a2:List Int)(a3:Bool)(a4:List Int):Option Int:=(if(!(a1==a3))=true then(if a1=true then some (-1)else some 1)else(if a1=true then(kU a4 a2).bind fun v8=>some v8 else(kU a2 a4).bind fun v10=>some v10))
theorem x9{a1:Bool}{a2:List Int}{a3:Bool}{a4:List Int}{r12:Int}(h:lN a1 a2 a3 a4=some r12):bf PP 172 [] [D.agg ([D.bool a1,ai (ak.int .i64) a2]),D.agg ([D.bool a3,ai (ak.int .i64) a4])] [] (D.int .i64 r12):=by
 unfold lN at h;refine .of Go.Proofs.Tryz.func172 rfl (by kernel_rfl) rfl rfl rfl rfl rfl rfl (fun A w0 L b=>?_);show Ok PP _ [(0,D.agg ([D.bool a1,ai (ak.int .i64) a2])),(1,D.agg ([D.bool a3,ai (ak.int .i64) a4]))] [] _ _;refine .al (.iP rfl rfl<|.iP rfl rfl<|.aq rfl<|.nil) rfl ?_;refine .sq ?_;refine .al (.fa rfl bL<|.bu (D.bool a1) rfl rfl bT rfl<|.fa rfl bL<|.bu (D.bool a3) rfl rfl bT rfl<|.bc i5 rfl rfl rfl<|.nil) rfl ?_;by_cases c5:(!(a1==a3))=true
 ·replace h:=ab c5 h;refine .cl rfl c5 ?_;refine .sq ?_;refine .al (.fa rfl bL<|.bu (D.bool a1) rfl rfl bT rfl<|.nil) rfl ?_;by_cases c6:a1=true
  ·replace h:=ab c6 h;refine .cl rfl c6 ?_;refine .al (.aq rfl<|.nil) rfl ?_;cases h;refine .aO (fun _ _ hb=>hb) rfl (.t1 (.tmp rfl)) (.refl _) trivial trivial
  ·replace h:=aa c6 h;refine .cq rfl c6 ?_;refine .skip (Ok.on ?_);refine .al (.aq rfl<|.nil) rfl ?_;cases h;refine .aO (fun _ _ hb=>hb) rfl (.t1 (.tmp rfl)) (.refl _) trivial trivial
 ·replace h:=aa c5 h;refine .cq rfl c5 ?_;refine .skip (Ok.on ?_);refine .sq ?_;refine .al (.fa rfl bL<|.bu (D.bool a1) rfl rfl bT rfl<|.nil) rfl ?_;by_cases c7:a1=true
  ·replace h:=ab c7 h;refine .cl rfl c7 ?_;obtain⟨v8,e9,h⟩:=bind_some h;refine .al (.fa rfl aH<|.bu (ai (ak.int .i64) a4) rfl rfl cH rfl<|.fa rfl aH<|.bu (ai (ak.int .i64) a2) rfl rfl cH rfl<|.ag (sZ e9) ⟨rfl,rfl,trivial⟩ trivial trivial<|.aq rfl<|.nil) rfl ?_;cases h;refine .aO (fun _ _ hb=>hb) rfl (.t1 (.tmp rfl)) (.refl _) trivial trivial
  ·replace h:=aa c7 h;refine .cq rfl c7 ?_;refine .skip (Ok.on ?_);obtain⟨v10,e11,h⟩:=bind_some h;refine .al (.fa rfl aH<|.bu (ai (ak.int .i64) a2) rfl rfl cH rfl<|.fa rfl aH<|.bu (ai (ak.int .i64) a4) rfl rfl cH rfl<|.ag (sZ e11) ⟨rfl,rfl,trivial⟩ trivial trivial<|.aq rfl<|.nil) rfl ?_;cases h;refine .aO (fun _ _ hb=>hb) rfl (.t1 (.tmp rfl)) (.refl _) trivial trivial
def kR(a2:List Int)(v6:Int)(v7:Int):Option (St (Int×Int) Int):=(if(decide (v7>=0))=true then(ix a2 v7).bind fun v13=>some (St.next ((IntKind.i64.wrap ((IntKind.i64.wrap (v6*10000))+v13)),(IntKind.i64.wrap (v7-1))))else some (St.done v6))
def kY(a1:Bool)(a2:List Int):Option (Int×Bool):=(if(decide ((a2.length:Int)>4))=true then some (0,false)else((Loop (fun(s:Int×Int)=>kR a2 s.1 s.2) (0,(IntKind.i64.wrap ((a2.length:Int)-1)))).bind fun v15=>some (v15)).bind fun v16=>some (v16,true))
theorem wb{a1:Bool}{a2:List Int}{r17:Int}{r18:Bool}(h:kY a1 a2=some (r17,r18)):bf PP 249 [] [D.agg ([D.bool a1,ai (ak.int .i64) a2])] [] (D.ig [D.int .i64 r17,D.bool r18]):=by
 unfold kY at h;refine .of Go.Proofs.Tryz.func249 rfl (by kernel_rfl) rfl rfl rfl rfl rfl rfl (fun A w0 L b=>?_);show Ok PP _ [(0,D.agg ([D.bool a1,ai (ak.int .i64) a2]))] [] _ _;refine .al (.iP rfl rfl<|.aq rfl<|.aq rfl<|.nil) rfl ?_;refine .sq ?_;refine .al (.fa rfl aH<|.bu (ai (ak.int .i64) a2) rfl rfl cH rfl<|.ec rfl bK<|.cm rfl rfl rfl<|.nil) rfl ?_;by_cases c3:(decide ((a2.length:Int)>4))=true
 ·replace h:=ab c3 h;refine .cl rfl c3 ?_;refine .al (.aq rfl<|.aq rfl<|.nil) rfl ?_;cases h;refine .aO (fun _ _ hb=>hb) rfl (.cons (.tmp rfl) (.t1 (.tmp rfl))) (.refl _) trivial trivial
 ·replace h:=aa c3 h;refine .cq rfl c3 ?_;refine .skip (Ok.on ?_);refine .al (.aq rfl<|.nil) rfl ?_;obtain⟨v16,hp5,h⟩:=bind_some h;refine .cc (fun i=>v16=i) (fun(i:Int)=>[(4,D.int .i64 i)]) (fun(i:Int)=>[]) ?_ ?_
  ·have ho1:=h;have h:=hp5;refine .al (.fa rfl aH<|.bu (ai (ak.int .i64) a2) rfl rfl cH rfl<|.ec rfl bK<|.ar rfl rfl rfl<|.aq rfl<|.nil) rfl ?_;obtain⟨o8,hl9,h⟩:=bind_some h;have ho2:=h;refine .block (.bU (fun(s:Int×Int)=>[(1,D.ref 1 0),(4,D.int .i64 s.1),(5,D.int .i64 s.2)]) (fun(s:Int×Int)=>[(1,Hp.box 35 ([D.bool a1,ai (ak.int .i64) a2]))]) hl9 (.of rfl) (.of rfl) rfl rfl ?_);rintro⟨v6,v7⟩ st10 hb11;have h:kR a2 v6 v7=some st10:=hb11;unfold kR at h
   try dsimp only
   refine .sq ?_;refine .al (.mv rfl<|.cm rfl rfl rfl<|.nil) rfl ?_;by_cases c12:(decide (v7>=0))=true
   ·replace h:=ab c12 h;refine .cl rfl c12 ?_;refine .skip (Ok.on ?_);refine .sq ?_;refine .block ?_;obtain⟨v13,e14,h⟩:=bind_some h;refine .region (.mv rfl<|.ar rfl rfl rfl<|.fa rfl aH<|.bu (ai (ak.int .i64) a2) rfl rfl cH rfl<|.mv rfl<|.ll rfl rfl dX (af e14).1 (af e14).2<|.i6 rfl dQ<|.ar rfl rfl rfl<|.aq rfl<|.nil) rfl (Ok.on ?_);refine .region (.mv rfl<|.ar rfl rfl rfl<|.aq rfl<|.nil) rfl (fun _ _ hs=>⟨((IntKind.i64.wrap ((IntKind.i64.wrap (v6*10000))+v13)),(IntKind.i64.wrap (v7-1))),(sj h),hs.sub (.of rfl) (.of rfl) rfl rfl⟩)
   ·replace h:=aa c12 h;refine .cq rfl c12 ?_;refine .exit (fun a w hs=>⟨_,(sj h),fun e=>by subst e;have h:=ho2;exact aS (⟨v6,(sj h),hs.sub (.of rfl) trivial rfl rfl⟩)⟩)
  ·rintro _ rfl
   try dsimp only
   refine .al (.mv rfl<|.aq rfl<|.aq rfl<|.nil) rfl ?_;cases h;refine .aO (fun _ _ hb=>hb) rfl (.cons (.tmp rfl) (.t1 (.tmp rfl))) (.refl _) trivial trivial
def kq(v22:Int)(v23:Int):Option (St (Int×Int) Int):=(if(v23 !=0)=true then cj ((v23:Int)≠0) (some (St.next (v23,(Int.tmod v22 v23))))else some (St.done v22))
def ko(v5:List Int)(v6:List Int):Option (St ((List Int)×(List Int)) (Ex (List Int) (Bool×(List Int)))):=(if(decide ((v6.length:Int)>0))=true then(kY false v5).bind fun(v12,v13)=>(kY false v6).bind fun(v15,v16)=>((if v13=true then(if v16=true then(Loop (fun(s:Int×Int)=>kq s.1 s.2) (v12,v15)).bind fun v30=>(fQ v30).bind fun(v31,v32)=>some (Ex.ret (v31,v32))else some (Ex.cd ()))else some (Ex.cd ()))).bind fun o18=>(match o18 with|Ex.cd ()=>(lk v5 v6).bind fun(v34,v35)=>some (St.next (v6,v35))|Ex.ret (r37,r38)=>some (St.done (Ex.ret (r37,r38))))else some (St.done (Ex.cd v5)))
def nW(a1:Bool)(a2:List Int)(a3:Bool)(a4:List Int):Option (Bool×(List Int)):=(Loop (fun(s:(List Int)×(List Int))=>ko s.1 s.2) (a2,a4)).bind fun o7=>(match o7 with|Ex.cd v39=>some (false,v39)|Ex.ret (r40,r41)=>some (r40,r41))
theorem Ey{a1:Bool}{a2:List Int}{a3:Bool}{a4:List Int}{r42:Bool}{r43:List Int}(h:nW a1 a2 a3 a4=some (r42,r43)):bf PP 220 [] [D.agg ([D.bool a1,ai (ak.int .i64) a2]),D.agg ([D.bool a3,ai (ak.int .i64) a4])] [] (D.agg ([D.bool r42,ai (ak.int .i64) r43])):=by
 unfold nW at h;refine .of Go.Proofs.Tryz.func220 rfl (by kernel_rfl) rfl rfl rfl rfl rfl rfl (fun A w0 L b=>?_);show Ok PP _ [(0,D.agg ([D.bool a1,ai (ak.int .i64) a2])),(1,D.agg ([D.bool a3,ai (ak.int .i64) a4]))] [] _ _;refine .al (.iP rfl rfl<|.iP rfl rfl<|.fN ([D.bool false,D.nil]) cn ⟨.refl _,.refl _,trivial⟩ rfl<|.nil) rfl ?_;refine .cZ cf (.fa rfl aH<|.bu (ai (ak.int .i64) a2) rfl rfl cH rfl<|.fa rfl aH<|.bu (ai (ak.int .i64) a4) rfl rfl cH rfl<|.aq rfl<|.aq rfl<|.nil) rfl (by kernel_rfl) ?_;obtain⟨o7,hl8,h⟩:=bind_some h;refine .cc (fun i=>o7=Ex.cd i) (fun(i:(List Int))=>[(4,D.ref 4 0),(5,ai (ak.int .i64) i)]) (fun(i:(List Int))=>[(4,Hp.box 35 ([D.bool false,D.nil]))]) ?_ ?_
 ·have ho1:=h;refine .block (.bU (fun(s:(List Int)×(List Int))=>[(4,D.ref 4 0),(5,ai (ak.int .i64) s.1),(6,ai (ak.int .i64) s.2)]) (fun(s:(List Int)×(List Int))=>[(4,Hp.box 35 ([D.bool false,D.nil]))]) hl8 (.of rfl) (.of rfl) rfl rfl ?_);rintro⟨v5,v6⟩ st9 hb10;have h:ko v5 v6=some st9:=hb10;unfold ko at h
  try dsimp only
  refine .sq ?_;refine .al (.mv rfl<|.ec rfl bK<|.cm rfl rfl rfl<|.nil) rfl ?_;by_cases c11:(decide ((v6.length:Int)>0))=true
  ·replace h:=ab c11 h;refine .cl rfl c11 ?_;refine .skip (Ok.on ?_);refine .block ?_;obtain⟨⟨v12,v13⟩,e14,h⟩:=bind_some h;refine .al (.mv rfl<|.n_ ([D.bool false,ai (ak.int .i64) v5]) [(1,_,ai (ak.int .i64) v5,[ai (ak.int .i64) v5])] cn fu ⟨rfl,rfl,.one rfl,rfl,trivial⟩ ⟨rfl,trivial⟩ ⟨.refl _,.refl _,trivial⟩<|.ag (wb e14) ⟨rfl,trivial⟩ trivial trivial<|.mv rfl<|.ext rfl rfl<|.ext rfl rfl<|.aq rfl<|.aq rfl<|.nil) rfl ?_;obtain⟨⟨v15,v16⟩,e17,h⟩:=bind_some h;refine .al (.mv rfl<|.n_ ([D.bool false,ai (ak.int .i64) v6]) [(1,_,ai (ak.int .i64) v6,[ai (ak.int .i64) v6])] cn fu ⟨rfl,rfl,.one rfl,rfl,trivial⟩ ⟨rfl,trivial⟩ ⟨.refl _,.refl _,trivial⟩<|.ag (wb e17) ⟨rfl,trivial⟩ trivial trivial<|.mv rfl<|.ext rfl rfl<|.ext rfl rfl<|.aq rfl<|.aq rfl<|.nil) rfl ?_;obtain⟨o18,hp19,h⟩:=bind_some h;refine .cc (fun i=>o18=Ex.cd i) (fun(i:Unit)=>[(4,D.ref 4 0),(5,ai (ak.int .i64) v5),(6,ai (ak.int .i64) v6)]) (fun(i:Unit)=>[(4,Hp.box 35 ([D.bool false,D.nil]))]) ?_ ?_
   ·have ho2:=h;have h:=hp19;by_cases c20:v13=true
    ·replace h:=ab c20 h;refine .al (.mv rfl<|.mv rfl<|.gy c20<|.mv rfl<|.aX rfl c20 rfl<|.nil) rfl ?_;by_cases c21:v16=true
     ·replace h:=ab c21 h;refine .cl rfl c21 ?_;obtain⟨v30,hl25,h⟩:=bind_some h;refine .cc (fun i=>v30=i) (fun(i:Int)=>[(4,D.ref 4 0),(7,D.int .i64 i)]) (fun(i:Int)=>[(4,Hp.box 35 ([D.bool false,D.nil]))]) ?_ ?_
      ·have ho3:=h;refine .block (.bU (fun(s:Int×Int)=>[(4,D.ref 4 0),(7,D.int .i64 s.1),(9,D.int .i64 s.2)]) (fun(s:Int×Int)=>[(4,Hp.box 35 ([D.bool false,D.nil]))]) hl25 (.of rfl) (.of rfl) rfl rfl ?_);rintro⟨v22,v23⟩ st26 hb27;have h:kq v22 v23=some st26:=hb27;unfold kq at h
       try dsimp only
       refine .sq ?_;refine .al (.mv rfl<|.cm rfl rfl rfl<|.nil) rfl ?_;by_cases c28:(v23 !=0)=true
       ·replace h:=ab c28 h;refine .cl rfl c28 ?_;refine .skip (Ok.on ?_);refine .block ?_;obtain⟨k29,h⟩:=av h;refine .c_ cf (.mv rfl<|.mv rfl<|.mv rfl<|.ar rfl rfl (tN k29)<|.aq rfl<|.aq rfl<|.nil) rfl (by kernel_rfl) (fun _ _ hs=>⟨(v23,(Int.tmod v22 v23)),(sj h),hs.sub (.of rfl) (.of rfl) rfl rfl⟩)
       ·replace h:=aa c28 h;refine .cq rfl c28 ?_;refine .exit (fun _ _ hs=>⟨_,(sj h),fun e=>⟨v22,e.symm,hs.sub (.of rfl) (.of rfl) rfl rfl⟩⟩)
      ·rintro _ rfl
       try dsimp only
       obtain⟨⟨v31,v32⟩,e33,h⟩:=bind_some h;refine .al (.mv rfl<|.ag (lM e33) ⟨rfl,trivial⟩ trivial trivial<|.cU ([D.bool v31,ai (ak.int .i64) v32]) rfl rfl rfl ax rfl rfl rfl<|.nil) rfl ?_;cases h;have h:=ho2;refine .aO (Hi:=[]) (Ho:=[]) (b:=b) (fn:=Go.Proofs.Tryz.f220) (d:=D.agg ([D.bool v31,ai (ak.int .i64) v32])) (fun _ _ hb=>by exact⟨_,(sj h),fun e=>by subst e;have h:=ho1;cases h;exact hb⟩) rfl (.cons (.agg rfl rfl ax rfl) .nil) (.refl _) trivial trivial
     ·replace h:=aa c21 h;refine .cq rfl c21 ?_;refine .skip (fun _ _ hs=>⟨(),(sj h),hs.sub (.of rfl) (.of rfl) rfl rfl⟩)
    ·replace h:=aa c20 h;refine .al (.mv rfl<|.mv rfl<|.gm c20<|.aT rfl c20 rfl<|.nil) rfl ?_;refine .cq rfl (by decide) ?_;refine .skip (fun _ _ hs=>⟨(),(sj h),hs.sub (.of rfl) (.of rfl) rfl rfl⟩)
   ·rintro⟨⟩ rfl
    try dsimp only
    obtain⟨⟨v34,v35⟩,e36,h⟩:=bind_some h;refine .al (.mv rfl<|.mv rfl<|.ag (tT e36) ⟨rfl,rfl,trivial⟩ trivial trivial<|.mv rfl<|.ext rfl rfl<|.ext rfl rfl<|.aq rfl<|.aq rfl<|.nil) rfl ?_;refine .region (.mv rfl<|.mv rfl<|.aq rfl<|.aq rfl<|.nil) rfl (fun _ _ hs=>⟨(v6,v35),(sj h),hs.sub (.of rfl) (.of rfl) rfl rfl⟩)
  ·replace h:=aa c11 h;refine .cq rfl c11 ?_;refine .exit (fun _ _ hs=>⟨_,(sj h),fun e=>⟨v5,e.symm,hs.sub (.of rfl) (.of rfl) rfl rfl⟩⟩)
 ·rintro v39 rfl
  try dsimp only
  refine .al (.mv rfl<|.n_ ([D.bool false,ai (ak.int .i64) v39]) [(1,_,ai (ak.int .i64) v39,[ai (ak.int .i64) v39])] cn fu ⟨rfl,rfl,.one rfl,rfl,trivial⟩ ⟨rfl,trivial⟩ ⟨.refl _,.refl _,trivial⟩<|.cU ([D.bool false,ai (ak.int .i64) v39]) rfl rfl rfl ax rfl rfl rfl<|.nil) rfl ?_;cases h;refine .aO (fun _ _ hb=>hb) rfl (.cons (.agg rfl rfl ax rfl) .nil) (.refl _) trivial trivial
def eS(v17:List UInt8)(v18:Int)(v19:Int):Option (St ((List UInt8)×Int×Int) (List UInt8)):=(if(decide (v19<4))=true then cj ((0:Int)<=(Int.tmod v18 10)/\((Int.tmod v18 10):Int)<=(IntKind.i64.wrap ((Int.tmod v18 10)+1))/\((IntKind.i64.wrap ((Int.tmod v18 10)+1)):Int)<=(([48,49,50,51,52,53,54,55,56,57]:List UInt8).length:Int)) (cj ((List.drop (Int.tmod v18 10).toNat (List.take (IntKind.i64.wrap ((Int.tmod v18 10)+1)).toNat ([48,49,50,51,52,53,54,55,56,57]:List UInt8))).length+v17.length<=9223372036854775807) (some (St.next (((List.drop (Int.tmod v18 10).toNat (List.take (IntKind.i64.wrap ((Int.tmod v18 10)+1)).toNat ([48,49,50,51,52,53,54,55,56,57]:List UInt8)))++v17),(IntKind.i64.wrap (Int.tdiv v18 10)),(IntKind.i64.wrap (v19+1))))))else some (St.done v17))
def iG(a2:List Int)(v6:List UInt8)(v7:Int):Option (St ((List UInt8)×Int) (List UInt8)):=(if(decide (v7<(a2.length:Int)))=true then((ix a2 v7).bind fun v15=>(Loop (fun(s:(List UInt8)×Int×Int)=>eS s.1 s.2.1 s.2.2) (v6,v15,0)).bind fun v27=>some (v27)).bind fun v28=>some (St.next (v28,(IntKind.i64.wrap (v7+1))))else some (St.done v6))
def iC(v31:List UInt8):Option (St (List UInt8) (List UInt8)):=(ix v31 0).bind fun v36=>(if((v36.toNat:Int)==48)=true then cj ((0:Int)<=1/\(1:Int)<=(v31.length:Int)) (some (St.next (List.drop (1:Int).toNat v31)))else some (St.done v31))
def kZ(a1:Bool)(a2:List Int):Option (List UInt8):=(if((a2.length:Int)==0)=true then some ([48]:List UInt8)else((Loop (fun(s:(List UInt8)×Int)=>iG a2 s.1 s.2) (([]:List UInt8),0)).bind fun v29=>some (v29)).bind fun v30=>(Loop (fun(s:(List UInt8))=>iC s) v30).bind fun v40=>(if a1=true then cj (([45]:List UInt8).length+v40.length<=9223372036854775807) (some (([45]:List UInt8)++v40))else some v40))
theorem vH{a1:Bool}{a2:List Int}{r43:List UInt8}(h:kZ a1 a2=some r43):bf PP 222 [] [D.agg ([D.bool a1,ai (ak.int .i64) a2])] [] (cu r43):=by
 unfold kZ at h;refine .of Go.Proofs.Tryz.func222 rfl (by kernel_rfl) rfl rfl rfl rfl rfl rfl (fun A w0 L b=>?_);show Ok PP _ [(0,D.agg ([D.bool a1,ai (ak.int .i64) a2]))] [] _ _;refine .al (.iP rfl rfl<|.aq rfl<|.nil) rfl ?_;refine .sq ?_;refine .al (.fa rfl aH<|.bu (ai (ak.int .i64) a2) rfl rfl cH rfl<|.ec rfl bK<|.cm rfl rfl rfl<|.nil) rfl ?_;by_cases c3:((a2.length:Int)==0)=true
 ·replace h:=ab c3 h;refine .cl rfl c3 ?_;refine .al (.aq rfl<|.nil) rfl ?_;cases h;refine .aO (fun _ _ hb=>hb) rfl (.t1 (.tmp rfl)) (.refl _) trivial trivial
 ·replace h:=aa c3 h;refine .cq rfl c3 ?_;refine .skip (Ok.on ?_);refine .al (.aq rfl<|.nil) rfl ?_;obtain⟨v30,hp5,h⟩:=bind_some h;refine .cc (fun i=>v30=i) (fun(i:(List UInt8))=>[(1,D.ref 1 0),(3,cu i)]) (fun(i:(List UInt8))=>[(1,Hp.box 35 ([D.bool a1,ai (ak.int .i64) a2]))]) ?_ ?_
  ·have ho1:=h;have h:=hp5;refine .al (.aq rfl<|.nil) rfl ?_;obtain⟨o8,hl9,h⟩:=bind_some h;have ho2:=h;refine .block (.bU (fun(s:(List UInt8)×Int)=>[(1,D.ref 1 0),(3,cu s.1),(4,D.int .i64 s.2)]) (fun(s:(List UInt8)×Int)=>[(1,Hp.box 35 ([D.bool a1,ai (ak.int .i64) a2]))]) hl9 (.of rfl) (.of rfl) rfl rfl ?_);rintro⟨v6,v7⟩ st10 hb11;have h:iG a2 v6 v7=some st10:=hb11;unfold iG at h
   try dsimp only
   refine .sq ?_;refine .al (.mv rfl<|.fa rfl aH<|.bu (ai (ak.int .i64) a2) rfl rfl cH rfl<|.ec rfl bK<|.cm rfl rfl rfl<|.nil) rfl ?_;by_cases c12:(decide (v7<(a2.length:Int)))=true
   ·replace h:=ab c12 h;refine .cl rfl c12 ?_;refine .skip (Ok.on ?_);obtain⟨v28,hp14,h⟩:=bind_some h;refine .cc (fun i=>v28=i) (fun(i:(List UInt8))=>[(1,D.ref 1 0),(3,cu i),(4,D.int .i64 v7)]) (fun(i:(List UInt8))=>[(1,Hp.box 35 ([D.bool a1,ai (ak.int .i64) a2]))]) ?_ ?_
    ·have ho3:=h;have h:=hp14;refine .block ?_;obtain⟨v15,e16,h⟩:=bind_some h;refine .al (.fa rfl aH<|.bu (ai (ak.int .i64) a2) rfl rfl cH rfl<|.mv rfl<|.ll rfl rfl dX (af e16).1 (af e16).2<|.i6 rfl dQ<|.aq rfl<|.nil) rfl ?_;refine .al (.aq rfl<|.nil) rfl ?_;obtain⟨o20,hl21,h⟩:=bind_some h;have ho4:=h;refine .block (.bU (fun(s:(List UInt8)×Int×Int)=>[(1,D.ref 1 0),(3,cu s.1),(4,D.int .i64 v7),(5,D.int .i64 s.2.1),(6,D.int .i64 s.2.2)]) (fun(s:(List UInt8)×Int×Int)=>[(1,Hp.box 35 ([D.bool a1,ai (ak.int .i64) a2]))]) hl21 (.of rfl) (.of rfl) rfl rfl ?_);rintro⟨v17,v18,v19⟩ st22 hb23;have h:eS v17 v18 v19=some st22:=hb23;unfold eS at h
     try dsimp only
     refine .sq ?_;refine .al (.mv rfl<|.cm rfl rfl rfl<|.nil) rfl ?_;by_cases c24:(decide (v19<4))=true
     ·replace h:=ab c24 h;refine .cl rfl c24 ?_;refine .skip (Ok.on ?_);refine .sq ?_;refine .block ?_;obtain⟨k25,h⟩:=av h;obtain⟨k26,h⟩:=av h;refine .al (.mv rfl<|.ar rfl rfl (tN (by decide))<|.mv rfl<|.ar rfl rfl (tN (by decide))<|.ar rfl rfl rfl<|.KG rfl rfl rfl de k25.1 k25.2.1 k25.2.2<|.mv rfl<|.yB rfl rfl k26<|.aq rfl<|.nil) rfl ?_;refine .region (.mv rfl<|.ar rfl rfl (yf (by decide))<|.aq rfl<|.nil) rfl (Ok.on ?_);refine .region (.mv rfl<|.ar rfl rfl rfl<|.aq rfl<|.nil) rfl (fun _ _ hs=>⟨(((List.drop (Int.tmod v18 10).toNat (List.take (IntKind.i64.wrap ((Int.tmod v18 10)+1)).toNat ([48,49,50,51,52,53,54,55,56,57]:List UInt8)))++v17),(IntKind.i64.wrap (Int.tdiv v18 10)),(IntKind.i64.wrap (v19+1))),(sj h),hs.sub (.of rfl) (.of rfl) rfl rfl⟩)
     ·replace h:=aa c24 h;refine .cq rfl c24 ?_;refine .exit (fun a w hs=>⟨_,(sj h),fun e=>by subst e;have h:=ho4;exact aS (⟨v17,(sj h),hs.sub (.of rfl) (.of rfl) rfl rfl⟩)⟩)
    ·rintro _ rfl
     try dsimp only
     refine .region (.mv rfl<|.ar rfl rfl rfl<|.aq rfl<|.nil) rfl (fun _ _ hs=>⟨(v28,(IntKind.i64.wrap (v7+1))),(sj h),hs.sub (.of rfl) (.of rfl) rfl rfl⟩)
   ·replace h:=aa c12 h;refine .cq rfl c12 ?_;refine .exit (fun a w hs=>⟨_,(sj h),fun e=>by subst e;have h:=ho2;exact aS (⟨v6,(sj h),hs.sub (.of rfl) (.of rfl) rfl rfl⟩)⟩)
  ·rintro _ rfl
   try dsimp only
   obtain⟨v40,hl33,h⟩:=bind_some h;refine .cc (fun i=>v40=i) (fun(i:(List UInt8))=>[(1,D.ref 1 0),(3,cu i)]) (fun(i:(List UInt8))=>[(1,Hp.box 35 ([D.bool a1,ai (ak.int .i64) a2]))]) ?_ ?_
   ·have ho1:=h;refine .block (.bU (fun(s:(List UInt8))=>[(1,D.ref 1 0),(3,cu s)]) (fun(s:(List UInt8))=>[(1,Hp.box 35 ([D.bool a1,ai (ak.int .i64) a2]))]) hl33 (.of rfl) (.of rfl) rfl rfl ?_);rintro v31 st34 hb35;have h:iC v31=some st34:=hb35;unfold iC at h
    try dsimp only
    refine .sq ?_;obtain⟨v36,e37,h⟩:=bind_some h;refine .al (.mv rfl<|.Kq rfl rfl de (af e37).1 (af e37).2<|.cm rfl rfl rfl<|.nil) rfl ?_;by_cases c38:((v36.toNat:Int)==48)=true
    ·replace h:=ab c38 h;refine .cl rfl c38 ?_;refine .skip (Ok.on ?_);refine .block ?_;obtain⟨k39,h⟩:=av h;refine .region (.mv rfl<|.JW rfl rfl de k39.1 k39.2<|.aq rfl<|.nil) rfl (fun _ _ hs=>⟨(List.drop (1:Int).toNat v31),(sj h),hs.sub (.of rfl) (.of rfl) rfl rfl⟩)
    ·replace h:=aa c38 h;refine .cq rfl c38 ?_;refine .exit (fun _ _ hs=>⟨_,(sj h),fun e=>⟨v31,e.symm,hs.sub (.of rfl) (.of rfl) rfl rfl⟩⟩)
   ·rintro _ rfl
    try dsimp only
    refine .sq ?_;refine .al (.fa rfl bL<|.bu (D.bool a1) rfl rfl bT rfl<|.nil) rfl ?_;by_cases c41:a1=true
    ·replace h:=ab c41 h;refine .cl rfl c41 ?_;obtain⟨k42,h⟩:=av h;refine .al (.mv rfl<|.yB rfl rfl k42<|.aq rfl<|.nil) rfl ?_;cases h;refine .aO (fun _ _ hb=>hb) rfl (.t1 (.tmp rfl)) (.refl _) trivial trivial
    ·replace h:=aa c41 h;refine .cq rfl c41 ?_;refine .skip (Ok.on ?_);refine .al (.mv rfl<|.aq rfl<|.nil) rfl ?_;cases h;refine .aO (fun _ _ hb=>hb) rfl (.t1 (.tmp rfl)) (.refl _) trivial trivial
end
end Go.Am
namespace Go.Am
open Go.RowKit
theorem ep(x i:Nat):x/10000^(i+1)=x/10000^i/10000:=by rw[Nat.pow_succ,Nat.div_div_eq_div_mul]
theorem mF(i:Nat):0<10000^i:=Nat.pow_pos (by decide)
theorem jo:∀(i x:Nat),i<(aD x).length↔x/10000^i≠0
 |i,x=>by
  by_cases h:x=0
  ·subst h;rw[dB,Nat.zero_div];simp
  ·rw[jN h,List.length_cons]
   cases i with
   |zero=>simp[h]
   |succ i=>
    have:=jo i (x/10000);rw[Nat.div_div_eq_div_mul,Nat.mul_comm,←Nat.pow_succ]at this;rw[←this];omega
theorem yK:∀(i x:Nat),i<(aD x).length->(aD x)[i]?=some ((x/10000^i%10000:Nat):Int)
 |i,x,h=>by
  have h0:x≠0:=by intro e;subst e;rw[dB]at h;simp at h
  rw[jN h0]at h|-
  cases i with
  |zero=>simp
  |succ i=>
   rw[List.getElem?_cons_succ,yK i (x/10000) (by simpa using h),Nat.div_div_eq_div_mul,Nat.mul_comm,←Nat.pow_succ]
theorem ke{i x:Nat}(h:i<(aD x).length):ix (aD x) (i:Int)=some ((x/10000^i%10000:Nat):Int):=by
 unfold ix;rw[if_pos (by omega),Int.toNat_natCast,yK i x h]
theorem mO(x:Nat):x/10000^(aD x).length=0:=by
 have:=(jo (aD x).length x);simp only[Nat.lt_irrefl,false_iff,ne_eq,Classical.not_not]at this;exact this
theorem kP(x:Nat):x<10000^(aD x).length:=by
 have:=mO x;rw[Nat.div_eq_zero_iff]at this;rcases this with h|h
 ·exact absurd h (Nat.ne_of_gt (mF _))
 ·exact h
theorem rU{x n:Nat}(h:x<10000^n):(aD x).length<=n:=by
 apply Nat.le_of_not_lt;intro hc;exact(jo n x).1 hc (Nat.div_eq_of_lt h)
theorem Ar{x n:Nat}(h:n<(aD x).length):10000^n<=x:=by
 have:=(jo n x).1 h;apply Nat.le_of_not_lt;intro hc;exact this (Nat.div_eq_of_lt hc)
theorem rQ(x:Nat):(aD x).length<=bN x:=by
 apply rU;refine Nat.lt_of_lt_of_le (m5 x) (Nat.pow_le_pow_left (by decide) _)
theorem fS{x:Nat}(h:sm x):(aD x).length<=4398046511104:=Nat.le_trans (rQ x) h
theorem rH{x:Nat}:(aD x).length=0↔x=0:=by
 constructor
 ·intro h;have:=kP x;rw[h]at this;simpa using this
 ·rintro rfl;rw[dB];rfl
def v10:List Int->Int
 |[]=>0
 |d::l=>d+10000*v10 l
def jG(l:List Int):Prop:=∀d∈l,0<=d/\d<10000
theorem qT:jG []:=by intro d h;cases h
theorem dV{d:Int}{l:List Int}:jG (d::l)↔(0<=d/\d<10000)/\jG l:=by simp[jG]
theorem sv{l m:List Int}:jG (l++m)↔jG l/\jG m:=by
 simp only[jG,List.mem_append];constructor
 ·exact fun h=>⟨fun d k=>h d (.inl k),fun d k=>h d (.inr k)⟩
 ·rintro⟨h,k⟩ d (hd|hd)
  ·exact h d hd
  ·exact k d hd
theorem Bq:∀x,jG (aD x)
 |x=>by
  by_cases h:x=0
  ·subst h;rw[dB];exact qT
  ·rw[jN h,dV];exact⟨by omega,Bq (x/10000)⟩
termination_by x=>x
decreasing_by exact Nat.div_lt_self (by omega) (by omega)
theorem tM:∀x:Nat,v10 (aD x)=x
 |x=>by
  by_cases h:x=0
  ·subst h;rw[dB];rfl
  ·rw[jN h,v10,tM (x/10000)];omega
termination_by x=>x
decreasing_by exact Nat.div_lt_self (by omega) (by omega)
theorem ph:∀{l:List Int},jG l->0<=v10 l
 |[],_=>by simp[v10]
 |d::l,h=>by
  have:=ph (dV.1 h).2;have:=(dV.1 h).1;rw[v10];omega
theorem pK:∀(l m:List Int),v10 (l++m)=v10 l+((10000^l.length:Nat):Int)*v10 m
 |[],m=>by simp[v10]
 |d::l,m=>by
  rw[List.cons_append,v10,pK l m,v10,List.length_cons,Nat.pow_succ,Nat.mul_comm (10000^l.length),Int.natCast_mul,Int.mul_add,Int.mul_assoc,Int.add_assoc];rfl
theorem DU:∀{l:List Int},jG l->v10 l<((10000^l.length:Nat):Int)
 |[],_=>by simp[v10]
 |d::l,h=>by
  have h1:=DU (dV.1 h).2;have:=(dV.1 h).1;rw[v10,List.length_cons,Nat.pow_succ];generalize 10000^l.length=p at*;omega
theorem xe:∀n,v10 (List.replicate n 0)=0
 |0=>rfl
 |n+1=>by rw[List.replicate_succ,v10,xe n];rfl
theorem xN(n:Nat):jG (List.replicate n 0):=by
 intro d h;have:=List.eq_of_mem_replicate h;omega
theorem tC:∀{l:List Int} {k:Nat} {d:Int},jG l->0<=d->d<10000->jG (l.set k d)
 |[],_,_,h,_,_=>h
 |e::l,0,d,h,h1,h2=>dV.2 ⟨⟨h1,h2⟩,(dV.1 h).2⟩
 |e::l,k+1,d,h,h1,h2=>dV.2 ⟨(dV.1 h).1,tC (dV.1 h).2 h1 h2⟩
theorem xq:∀{l:List Int} {k:Nat} {d:Int} (h:k<l.length),v10 (l.set k d)=v10 l+((10000^k:Nat):Int)*(d-l[k])
 |[],k,_,h=>by simp at h
 |e::l,0,d,h=>by simp only[List.set_cons_zero,v10,Nat.pow_zero,List.getElem_cons_zero];omega
 |e::l,k+1,d,h=>by
  have:=xq (l:=l) (k:=k) (d:=d) (by simpa using h);simp only[List.set_cons_succ,v10,List.getElem_cons_succ];rw[this,Nat.pow_succ,Nat.mul_comm (10000^k),Int.natCast_mul,Int.mul_add,Int.mul_assoc];omega
theorem xT:∀{l:List Int},jG l->(∀d,l.getLast?=some d->d≠0)->aD (v10 l).toNat=l
 |[],_,_=>by rw[v10];exact dB
 |[d],h,hl=>by
  have h0:=hl d rfl;have h1:=(dV.1 h).1;have e:(v10 [d]).toNat=d.toNat:=by simp[v10]
  rw[e,jN (by omega),Nat.div_eq_of_lt (by omega),dB,Nat.mod_eq_of_lt (by omega)]
  congr 1;omega
 |d::e::l,h,hl=>by
  have h1:=(dV.1 h).1;have h2:=(dV.1 h).2;have ih:=xT h2 (fun d hd=>hl d (by rw[List.getLast?_cons_cons];exact hd));have hp:(v10 (e::l)).toNat≠0:=by
   intro h0;rw[h0,dB]at ih;cases ih
  have hn:=ph h2;rw[v10];generalize v10 (e::l)=w at*;have e1:(d+10000*w).toNat=d.toNat+10000*w.toNat:=by omega
  rw[e1,jN (by omega)];have e2:(d.toNat+10000*w.toNat)/10000=w.toNat:=by omega
  have e3:(((d.toNat+10000*w.toNat)%10000:Nat):Int)=d:=by omega
  rw[e2,e3,ih]
theorem vp{l:List Int}(h:l≠[])(hz:l[l.length-1]?=some 0):v10 (l.take (l.length-1))=v10 l:=by
 have hl:0<l.length:=List.length_pos_iff.2 h;have e:l=l.take (l.length-1)++[0]:=by
  have:=List.take_append_drop (l.length-1) l
  conv=>lhs;rw[←this]
  congr 1
  rw[List.drop_eq_getElem_cons (by omega)];rw[List.getElem?_eq_getElem (by omega)]at hz;injection hz with hz;rw[hz,List.drop_eq_nil_of_le (by omega)]
 conv=>rhs;rw[e]
 rw[pK];simp[v10]
theorem sY(l:List Int)(h:jG l)(hl:l.length<=9000000000000000):jD l=some (aD (v10 l).toNat):=by
 unfold jD;obtain⟨r,hr,rfl⟩:=cx (body:=fun(s:(List Int))=>kn s) l (fun s=>jG s/\v10 s=v10 l/\s.length<=l.length) (fun s=>s.length) (fun r=>r=aD (v10 l).toNat) ⟨h,rfl,Nat.le_refl _⟩ (by
  rintro s ⟨hs,hv,hsl⟩;unfold kn;by_cases h0:s.length=0
  ·right
   have:s=[]:=List.length_eq_zero_iff.1 h0;subst this;rw[if_neg (by decide)];refine⟨[],rfl,?_⟩;rw[←hv];exact dB.symm
  ·rw[if_pos (decide_eq_true (by omega))];have e1:IntKind.i64.wrap ((s.length:Int)-1)=((s.length-1:Nat):Int):=by rw[wrap_small (by omega) (by omega)];omega
   rw[e1,fU (by omega),Option.bind_some];by_cases hz:s[s.length-1]=0
   ·left
    rw[if_pos (by rw[beq_iff_eq];exact hz)];refine⟨_,cC ⟨by omega,by omega⟩ rfl,⟨?_,?_,?_⟩,?_⟩
    ·rw[Int.toNat_natCast];exact fun d hd=>hs d (List.mem_of_mem_take hd)
    ·rw[Int.toNat_natCast,vp (by intro e;rw[e]at h0;exact h0 rfl) (by rw[List.getElem?_eq_getElem (by omega),hz]),hv]
    ·rw[Int.toNat_natCast,List.length_take];omega
    ·rw[Int.toNat_natCast,List.length_take];omega
   ·right
    rw[if_neg (by rw[beq_iff_eq];exact hz)];refine⟨s,rfl,?_⟩;rw[←hv];refine(xT hs ?_).symm;intro d hd;rw[List.getLast?_eq_getElem?,List.getElem?_eq_getElem (by omega)]at hd;injection hd with hd;rw[←hd];exact hz)
 rw[hr];rfl
end Go.Am
namespace Go.Am
open Go.RowKit
theorem G2{x i:Nat}(h:i<(aD x).length){j:Int}(hj:j=(i:Int)):ix (aD x) j=some ((x/10000^i%10000:Nat):Int):=by rw[hj,ke h]
theorem i64_in{n:Int}(h:-9223372036854775808<=n/\n<9223372036854775808):IntKind.i64.wrap n=n:=wrap_small h.1 h.2
theorem oZ(n:Int)(h:fm n):fQ n=some (decide (n<0),aD n.natAbs):=by
 unfold fQ;obtain⟨r,hr,rfl⟩:=cx (body:=fun(s:Int×(List Int))=>kj s.1 s.2) (n,[]) (fun s=>fm s.1/\s.2++aD s.1.natAbs=aD n.natAbs) (fun s=>s.1.natAbs) (fun r=>r=aD n.natAbs) ⟨h,rfl⟩ (by
  rintro⟨x,b⟩ ⟨hx,hb⟩;simp only at hx hb|-;unfold kj;unfold fm at hx;by_cases h0:x=0
  ·right
   subst h0;refine⟨b,rfl,?_⟩;rw[show Int.natAbs 0=0 from rfl,dB,List.append_nil]at hb;exact hb
  ·left
   have hc:(x !=0)=true:=by rw[bne_iff_ne];exact h0
   rw[if_pos hc];have e1:Int.tmod x 10000=if x<0 then-((x.natAbs%10000:Nat):Int)else((x.natAbs%10000:Nat):Int):=by
    by_cases hn:x<0
    ·rw[if_pos hn];have:x=-(x.natAbs:Int):=by omega
     conv=>lhs;rw[this]
     rw[Int.neg_tmod,Int.tmod_eq_emod_of_nonneg (by omega)];omega
    ·rw[if_neg hn,Int.tmod_eq_emod_of_nonneg (by omega)];omega
   have e2:Int.tdiv x 10000=if x<0 then-((x.natAbs/10000:Nat):Int)else((x.natAbs/10000:Nat):Int):=by
    by_cases hn:x<0
    ·rw[if_pos hn];have:x=-(x.natAbs:Int):=by omega
     conv=>lhs;rw[this]
     rw[Int.neg_tdiv,Int.tdiv_eq_ediv_of_nonneg (by omega)];omega
    ·rw[if_neg hn,Int.tdiv_eq_ediv_of_nonneg (by omega)];omega
   have hd:(if(decide ((Int.tmod x 10000)<0))=true then some ((IntKind.i64.wrap (0-(Int.tmod x 10000))))else some ((Int.tmod x 10000)))=some ((x.natAbs%10000:Nat):Int):=by
    rw[e1];by_cases hn:x<0
    ·rw[if_pos hn];by_cases hz:x.natAbs%10000=0
     ·rw[hz];rfl
     ·rw[if_pos (decide_eq_true (by omega)),i64_in (by omega)];congr 1;omega
    ·rw[if_neg hn,if_neg (by simp;omega)]
   rw[hd,Option.bind_some];have e3:IntKind.i64.wrap (Int.tdiv x 10000)=Int.tdiv x 10000:=by rw[e2,i64_in];split<;>omega
   have hx0:x.natAbs≠0:=by omega
   have e4:(Int.tdiv x 10000).natAbs=x.natAbs/10000:=by rw[e2];split<;>omega
   rw[jN hx0]at hb;have hbl:b.length+1<=9223372036854:=by
    have h1:=congrArg List.length hb;rw[List.length_append,List.length_cons]at h1;have h2:=rQ n.natAbs;have h3:bN n.natAbs<=64:=eL (by unfold fm at h;omega);omega
   rw[e3];refine⟨_,cC ⟨by simp only[List.length_cons,List.length_nil];omega,by simp only[List.length_cons,List.length_nil];omega⟩ rfl,⟨?_,?_⟩,?_⟩
   ·simp only;rw[e2];unfold fm;split<;>omega
   ·simp only;rw[e4,←hb,List.append_assoc];rfl
   ·simp only;rw[e4];exact Nat.div_lt_self (by omega) (by decide))
 rw[hr];rfl
theorem DI{X Y:Nat}(h:X/10000=Y/10000):((X%10000:Nat):Int)<((Y%10000:Nat):Int)↔X<Y:=by omega
theorem uA(x y:Nat)(hx:sm x)(hy:sm y):kU (aD x) (aD y)=some (fI x y):=by
 have lx:=fS hx;have ly:=fS hy;unfold kU;by_cases hl:(((aD x).length:Int) !=((aD y).length:Int))=true
 ·rw[if_pos hl];rw[bne_iff_ne]at hl;by_cases hlt:(aD x).length<(aD y).length
  ·rw[if_pos (decide_eq_true (by omega))];have h1:=kP x;have h2:=Ar hlt;unfold fI;rw[if_pos (by omega)]
  ·rw[if_neg (by simp;omega)];have h1:=kP y;have h2:=Ar (show(aD y).length<(aD x).length by omega);unfold fI;rw[if_neg (by omega),if_pos (by omega)]
 ·rw[if_neg hl];have hle:(aD x).length=(aD y).length:=by
   rw[bne_iff_ne,ne_eq,Classical.not_not]at hl;omega
  have e1:IntKind.i64.wrap (((aD x).length:Int)-1)=((aD x).length:Int)-1:=i64_in (by omega);rw[e1];obtain⟨r,hr,hq⟩:=cx (body:=fun(s:Int)=>lB (aD x) (aD y) s) (((aD x).length:Int)-1) (fun s=>∃k:Nat,s=(k:Int)-1/\k<=(aD x).length/\x/10000^k=y/10000^k) (fun s=>(s+1).toNat) (fun r=>(x=y/\r=Ex.cd ())\/(x≠y/\r=Ex.ret (fI x y))) ⟨_,rfl,Nat.le_refl _,by rw[mO,hle,mO]⟩ (by
   rintro s ⟨k,rfl,hk,he⟩;unfold lB
   cases k with
   |zero=>
    right
    rw[if_neg (by simp)];refine⟨_,rfl,.inl ⟨?_,rfl⟩⟩;simpa using he
   |succ k=>
    have ek:((k+1:Nat):Int)-1=(k:Int):=by omega
    rw[ek,if_pos (decide_eq_true (by omega)),G2 (by omega) rfl,Option.bind_some,G2 (by omega) rfl,Option.bind_some];rw[ep,ep]at he;have hmx:=Nat.div_add_mod x (10000^k);have hmy:=Nat.div_add_mod y (10000^k);have hlx:=Nat.mod_lt x (mF k);have hly:=Nat.mod_lt y (mF k);have hmono:∀a b:Nat,a/10000^k<b/10000^k->a<b:=by
     intro a b h;apply Nat.lt_of_not_le;intro hc;exact Nat.lt_irrefl _ (Nat.lt_of_lt_of_le h (Nat.div_le_div_right hc))
    by_cases hd:x/10000^k=y/10000^k
    ·left
     rw[if_neg (by rw[hd];simp)];refine⟨_,rfl,⟨k,?_,by omega,hd⟩,?_⟩
     ·exact i64_in (by omega)
     ·rw[i64_in (by omega)];omega
    ·right
     have hne:x≠y:=fun h=>hd (by rw[h]);have hnd:x/10000^k%10000≠y/10000^k%10000:=by
      intro h;apply hd;omega
     rw[if_pos (by rw[bne_iff_ne];omega),Option.bind_some,Option.bind_some];by_cases hlt:x/10000^k<y/10000^k
     ·rw[if_pos (decide_eq_true ((DI he).2 hlt))];refine⟨_,rfl,.inr ⟨hne,?_⟩⟩;have:=hmono _ _ hlt;unfold fI;rw[if_pos this]
     ·rw[if_neg (fun h=>hlt ((DI he).1 (of_decide_eq_true h)))];refine⟨_,rfl,.inr ⟨hne,?_⟩⟩;have:=hmono y x (Nat.lt_of_le_of_ne (Nat.le_of_not_lt hlt) (Ne.symm hd));unfold fI;rw[if_neg (by omega),if_pos this])
  rw[hr];rcases hq with⟨h,rfl⟩|⟨h,rfl⟩
  ·subst h;simp only[Option.bind_some,fI];simp
  ·rfl
theorem Ch(dx dy tgt out:List Int)(c i X Y:Nat)(hc1:c<=1)(gx:i<dx.length↔X≠0)(gy:i<dy.length↔Y≠0)(ex:i<dx.length->ix dx (i:Int)=some ((X%10000:Nat):Int))(ey:i<dy.length->ix dy (i:Int)=some ((Y%10000:Nat):Int))
  (lt:tgt.length<=4398046511105)(ho:out++aD (c+X+Y)=tgt)(hl:out.length=i):
  (∃c' out',iA dx dy (c:Int) (i:Int) out=some (.next (((c':Nat):Int),((i+1:Nat):Int),out'))/\c'<=1/\i+1<=4398046511105/\out'++aD (c'+X/10000+Y/10000)=tgt/\out'.length=i+1)\/
  (iA dx dy (c:Int) (i:Int) out=some (.done out)/\out=tgt):=by
 unfold iA;by_cases hz:X=0/\Y=0/\c=0
 ·right
  obtain⟨rfl,rfl,rfl⟩:=hz;have h3:¬i<dx.length:=fun h=>gx.1 h rfl;have h4:¬i<dy.length:=fun h=>gy.1 h rfl;rw[if_neg (by simp;omega),if_neg (by simp;omega),if_neg (by decide),Option.bind_some];refine⟨rfl,?_⟩;rw[dB,List.append_nil]at ho;exact ho
 ·left
  have hgo:(if(decide ((i:Int)<(dx.length:Int)))=true then some (Ex.cd ())else(if(decide ((i:Int)<(dy.length:Int)))=true then some (Ex.cd ())else(if(decide ((c:Int)>0))=true then some (Ex.cd ())else some (Ex.ret ()))):Option (Ex Unit Unit))=some (Ex.cd ()):=by
   by_cases h1:i<dx.length
   ·rw[if_pos (decide_eq_true (by omega))]
   ·rw[if_neg (by simp;omega)];by_cases h2:i<dy.length
    ·rw[if_pos (decide_eq_true (by omega))]
    ·rw[if_neg (by simp;omega),if_pos (decide_eq_true ?_)];have h3:X=0:=Classical.byContradiction fun h=>h1 (gx.2 h);have h4:Y=0:=Classical.byContradiction fun h=>h2 (gy.2 h);have:c≠0:=fun h=>hz ⟨h3,h4,h⟩;omega
  rw[hgo,Option.bind_some];dsimp only;have hR:c+X+Y≠0:=fun h=>hz ⟨by omega,by omega,by omega⟩;have e1:(if(decide ((i:Int)<(dx.length:Int)))=true then(ix dx (i:Int)).bind fun v20=>some ((IntKind.i64.wrap ((c:Int)+v20)))else some ((c:Int)))=some (((c+X%10000:Nat)):Int):=by
   by_cases h1:i<dx.length
   ·rw[if_pos (decide_eq_true (by omega)),ex h1,Option.bind_some,i64_in (by omega)];congr 1
   ·have h3:X=0:=Classical.byContradiction fun h=>h1 (gx.2 h);rw[if_neg (by simp;omega),h3];rfl
  rw[e1,Option.bind_some];have e2:(if(decide ((i:Int)<(dy.length:Int)))=true then(ix dy (i:Int)).bind fun v26=>some ((IntKind.i64.wrap (((c+X%10000:Nat):Int)+v26)))else some (((c+X%10000:Nat):Int)))=some (((c+X%10000+Y%10000:Nat)):Int):=by
   by_cases h1:i<dy.length
   ·rw[if_pos (decide_eq_true (by omega)),ey h1,Option.bind_some,i64_in (by omega)];congr 1
   ·have h3:Y=0:=Classical.byContradiction fun h=>h1 (gy.2 h);rw[if_neg (by simp;omega),h3];rfl
  rw[e2,Option.bind_some];rw[jN hR]at ho;have hol:=congrArg List.length ho;rw[List.length_append,List.length_cons]at hol;have hi1:i+1<=4398046511105:=by omega
  have e3:Int.tmod ((c+X%10000+Y%10000:Nat):Int) 10000=(((c+X+Y)%10000:Nat):Int):=by
   rw[Int.tmod_eq_emod_of_nonneg (by omega)];omega
  have e4:IntKind.i64.wrap (Int.tdiv ((c+X%10000+Y%10000:Nat):Int) 10000)=(((c+X%10000+Y%10000)/10000:Nat):Int):=by
   rw[Int.tdiv_eq_ediv_of_nonneg (by omega),i64_in (by omega)];omega
  have e5:IntKind.i64.wrap ((i:Int)+1)=((i+1:Nat):Int):=by rw[i64_in (by omega)];omega
  rw[e3,e4,e5];refine⟨_,_,cC ⟨by simp only[List.length_cons,List.length_nil];omega,by simp only[List.length_cons,List.length_nil];omega⟩ rfl,by omega,hi1,?_,by simp only[List.length_append,List.length_cons,List.length_nil];omega⟩;rw[←ho,List.append_assoc];rw[show(c+X%10000+Y%10000)/10000+X/10000+Y/10000=(c+X+Y)/10000 from by omega]
  rfl
theorem FB(x y:Nat)(hx:sm x)(hy:sm y):nT (aD x) (aD y)=some (aD (x+y)):=by
 have lt:(aD (x+y)).length<=4398046511105:=Nat.le_trans (rQ _) (qu hx hy);unfold nT;obtain⟨r,hr,rfl⟩:=cx (body:=fun(s:Int×Int×(List Int))=>iA (aD x) (aD y) s.1 s.2.1 s.2.2) (0,0,[])
  (fun s=>∃c i:Nat,s.1=(c:Int)/\s.2.1=(i:Int)/\c<=1/\i<=4398046511105/\s.2.2++aD (c+x/10000^i+y/10000^i)=aD (x+y)/\s.2.2.length=i)
  (fun s=>(4398046511106-s.2.1).toNat) (fun r=>r=aD (x+y)) ⟨0,0,rfl,rfl,by decide,by decide,by simp,rfl⟩ (by
  rintro⟨c',i',out⟩ ⟨c,i,hc,hi,hc1,hi1,ho,hl⟩;simp only at hc hi ho hl|-;subst hc;subst hi;have hm:(4398046511106-((i+1:Nat):Int)).toNat<(4398046511106-(i:Int)).toNat:=by omega
  rcases Ch (aD x) (aD y) _ out c i _ _ hc1 (jo i x) (jo i y) (fun h=>ke h) (fun h=>ke h) lt ho hl with⟨c2,out2,e,h1,h2,h3,h4⟩|⟨e,h⟩
  ·left
   refine⟨_,e,⟨c2,i+1,rfl,rfl,h1,h2,?_,h4⟩,hm⟩;rw[ep,ep];exact h3
  ·right
   exact⟨_,e,h⟩)
 rw[hr];rfl
end Go.Am
namespace Go.Am
open Go.RowKit
theorem Ac(dx dy out:List Int)(w i X Y:Nat)(T P:Int)(hw:w<=1)(gx:i<dx.length↔X≠0)(gy:i<dy.length↔Y≠0)(ex:i<dx.length->ix dx (i:Int)=some ((X%10000:Nat):Int))(ey:i<dy.length->ix dy (i:Int)=some ((Y%10000:Nat):Int))
  (lt:dx.length<=4398046511105)(hP:P=((10000^i:Nat):Int))(hV:v10 out+P*((X:Int)-Y-w)=T)(hok:jG out)(hl:out.length=i)(hi:i<dx.length):
  ∃w' d,gF dx dy (w:Int) (i:Int) out=some (.next (((w':Nat):Int),((i+1:Nat):Int),out++[d]))/\w'<=1/\v10 (out++[d])+P*10000*(((X/10000:Nat):Int)-((Y/10000:Nat):Int)-w')=T/\jG (out++[d])/\(out++[d]).length=i+1:=by
 unfold gF;have hi':(i:Int)<(dx.length:Int):=by omega
 rw[if_pos (decide_eq_true hi'),ex hi,Option.bind_some];have e1:(if(decide ((i:Int)<(dy.length:Int)))=true then(ix dy (i:Int)).bind fun v18=>some ((IntKind.i64.wrap ((IntKind.i64.wrap (((X%10000:Nat):Int)-(w:Int)))-v18)))else some ((IntKind.i64.wrap (((X%10000:Nat):Int)-(w:Int)))))=some (((X%10000:Nat):Int)-(w:Int)-((Y%10000:Nat):Int)):=by
  have e0:IntKind.i64.wrap (((X%10000:Nat):Int)-(w:Int))=((X%10000:Nat):Int)-(w:Int):=i64_in (by omega);by_cases h1:i<dy.length
  ·rw[if_pos (decide_eq_true (by omega)),ey h1,Option.bind_some,e0,i64_in (by omega)]
  ·have h3:Y=0:=Classical.byContradiction fun h=>h1 (gy.2 h);rw[if_neg (by simp;omega),e0,h3];congr 1;omega
 rw[e1,Option.bind_some];have hol:=hl;have key:∀(w':Nat) (d:Int),(X:Int)-Y-w=d+10000*(((X/10000:Nat):Int)-((Y/10000:Nat):Int)-w')->v10 (out++[d])+P*10000*(((X/10000:Nat):Int)-((Y/10000:Nat):Int)-w')=T:=by
  intro w' d h;rw[h]at hV;rw[pK,hl,←hP,←hV,Int.mul_add,Int.mul_assoc];rw[show v10 [d]=d from by simp[v10],Int.add_assoc]
 have hm:∀d:Int,(out.length+([d]).length)*8<=140737488355328/\out.length+([d]).length<=9223372036854775807:=by
  intro d;simp only[List.length_cons,List.length_nil];omega
 have e5:IntKind.i64.wrap ((i:Int)+1)=((i+1:Nat):Int):=by rw[i64_in (by omega)];omega
 by_cases hn:((X%10000:Nat):Int)-(w:Int)-((Y%10000:Nat):Int)<0
 ·rw[if_pos (decide_eq_true hn),Option.bind_some];dsimp only;have e6:IntKind.i64.wrap (((X%10000:Nat):Int)-(w:Int)-((Y%10000:Nat):Int)+10000)=((X%10000:Nat):Int)-(w:Int)-((Y%10000:Nat):Int)+10000:=i64_in (by omega);rw[e5,e6];refine⟨1,_,cC (hm _) rfl,by omega,key _ _ (by omega),?_,by simp[hl]⟩;rw[sv,dV];exact⟨hok,⟨by omega,by omega⟩,qT⟩
 ·rw[if_neg (by simpa using hn),Option.bind_some];dsimp only;rw[e5];refine⟨0,_,cC (hm _) rfl,by omega,key _ _ (by omega),?_,by simp[hl]⟩;rw[sv,dV];exact⟨hok,⟨by omega,by omega⟩,qT⟩
theorem qm(x y:Nat)(hx:sm x)(hyx:y<=x):jh (aD x) (aD y)=some (aD (x-y)):=by
 have lx:(aD x).length<=4398046511104:=fS hx;unfold jh;obtain⟨r,hr,hq⟩:=cx (body:=fun(s:Int×Int×(List Int))=>gF (aD x) (aD y) s.1 s.2.1 s.2.2) (0,0,[])
  (fun s=>∃w i:Nat,s.1=(w:Int)/\s.2.1=(i:Int)/\w<=1/\i<=(aD x).length/\v10 s.2.2+((10000^i:Nat):Int)*(((x/10000^i:Nat):Int)-((y/10000^i:Nat):Int)-w)=(x:Int)-y/\jG s.2.2/\s.2.2.length=i)
  (fun s=>((aD x).length-s.2.1).toNat) (fun r=>jG r/\v10 r=(x:Int)-y/\r.length=(aD x).length) ⟨0,0,rfl,rfl,by decide,Nat.zero_le _,by simp[v10],qT,rfl⟩ (by
  rintro⟨w',i',out⟩ ⟨w,i,hw,hi,hw1,hi1,hV,hok,hl⟩;simp only at hw hi hV hok hl|-;subst hw;subst hi;by_cases hlt:i<(aD x).length
  ·left
   obtain⟨w2,d,e,h1,h2,h3,h4⟩:=Ac (aD x) (aD y) out w i _ _ _ _ hw1 (jo i x) (jo i y) (fun h=>ke h) (fun h=>ke h) (Nat.le_trans lx (by decide)) rfl hV hok hl hlt;refine⟨_,e,⟨w2,i+1,rfl,rfl,h1,hlt,?_,h3,h4⟩,?_⟩
   ·simp only;rw[ep,ep,Nat.pow_succ,Int.natCast_mul];exact h2
   ·simp only;omega
  ·right
   have hX:x/10000^i=0:=Classical.byContradiction fun h=>hlt ((jo i x).2 h);have hY:y/10000^i=0:=Nat.le_zero.1 (hX▸Nat.div_le_div_right hyx);unfold gF;rw[if_neg (by simp;omega)];refine⟨_,rfl,hok,?_,by omega⟩;rw[hX,hY]at hV;have hb:=DU hok;rw[hl]at hb;have:w=0:=by
    apply Classical.byContradiction;intro h;have:w=1:=by omega
    subst this;generalize ((10000^i:Nat):Int)=P at*;omega
   subst this;generalize ((10000^i:Nat):Int)=P at*;omega)
 obtain⟨h1,h2,h3⟩:=hq;rw[hr];simp only[Option.bind_some];rw[sY r h1 (by rw[h3];exact Nat.le_trans lx (by decide)),h2,Option.bind_some]
 congr 2;omega
theorem zb(dx dy out:List Int)(i j c y T:Nat)(D:Nat)(hD:D<10000)(hc:c<10000)(lx:dx.length<=4398046511105)(ly:dy.length<=4398046511105)(hi:i<dx.length)(ex:ix dx (i:Int)=some (D:Int))
  (hdy:dy=aD y)(hok:jG out)(hol:out.length=dx.length+dy.length)(hT:T<10000^(i+1+dy.length))
  (hV:v10 out+((10000^(i+j)*(c+D*(y/10000^j)):Nat):Int)=(T:Int)):
  (∃c' out',gj dx dy (i:Int) (c:Int) (j:Int) out=some (.next (((c':Nat):Int),((j+1:Nat):Int),out'))/\c'<10000/\j+1<=dy.length+1/\jG out'/\out'.length=out.length/\v10 out'+((10000^(i+(j+1))*(c'+D*(y/10000^(j+1))):Nat):Int)=(T:Int))\/
  (gj dx dy (i:Int) (c:Int) (j:Int) out=some (.done out)/\v10 out=(T:Int)):=by
 have gy:=jo j y;rw[←hdy]at gy;unfold gj;by_cases hz:y/10000^j=0/\c=0
 ·right
  obtain⟨h1,rfl⟩:=hz;have h3:¬j<dy.length:=fun h=>gy.1 h h1;rw[if_neg (by simp;omega),if_neg (by decide),Option.bind_some];refine⟨rfl,?_⟩;rw[h1]at hV;simpa using hV
 ·left
  have hgo:(if(decide ((j:Int)<(dy.length:Int)))=true then some (Ex.cd ())else(if(decide ((c:Int)>0))=true then some (Ex.cd ())else some (Ex.ret ())):Option (Ex Unit Unit))=some (Ex.cd ()):=by
   by_cases h1:j<dy.length
   ·rw[if_pos (decide_eq_true (by omega))]
   ·rw[if_neg (by simp;omega),if_pos (decide_eq_true ?_)];have h3:y/10000^j=0:=Classical.byContradiction fun h=>h1 (gy.2 h);have:c≠0:=fun h=>hz ⟨h3,h⟩;omega
  rw[hgo,Option.bind_some];dsimp only;have hn:=ph hok;have hpos:0<c+D*(y/10000^j)\/(j<dy.length):=by
   by_cases h1:j<dy.length
   ·right;exact h1
   ·left
    have h3:y/10000^j=0:=Classical.byContradiction fun h=>h1 (gy.2 h);have:c≠0:=fun h=>hz ⟨h3,h⟩;omega
  have hj:j<dy.length+1/\i+j<dx.length+dy.length:=by
   rcases hpos with h|h
   ·have h1:10000^(i+j)<=T:=by
     have:=Nat.mul_le_mul_left (10000^(i+j)) h;rw[Nat.mul_succ,Nat.mul_zero,Nat.zero_add]at this;omega
    have h2:i+j<i+1+dy.length:=(Nat.pow_lt_pow_iff_right (by decide)).1 (Nat.lt_of_le_of_lt h1 hT);omega
   ·omega
  have ew:IntKind.i64.wrap ((i:Int)+(j:Int))=((i+j:Nat):Int):=by rw[i64_in (by omega)];omega
  have hlt:i+j<out.length:=by omega
  rw[ew,fU hlt,Option.bind_some];have ho:=hok _ (List.getElem_mem hlt);obtain⟨o,hoo⟩:∃o:Nat,out[i+j]=(o:Int):=⟨out[i+j].toNat,by omega⟩;have hset:∀d,v10 (out.set (i+j) d)=v10 out+((10000^(i+j):Nat):Int)*(d-(o:Int)):=fun d=>by rw[xq hlt,hoo]
  rw[hoo]at ho|-;have hprod:D*(y/10000^j%10000)<=9999*9999:=Nat.mul_le_mul (by omega) (by omega);have e1:(if(decide ((j:Int)<(dy.length:Int)))=true then(ix dx (i:Int)).bind fun v31=>(ix dy (j:Int)).bind fun v33=>some ((IntKind.i64.wrap ((IntKind.i64.wrap ((o:Int)+(c:Int)))+(IntKind.i64.wrap (v31*v33)))))else some ((IntKind.i64.wrap ((o:Int)+(c:Int)))))=some ((o+c+D*(y/10000^j%10000):Nat):Int):=by
   have e0:IntKind.i64.wrap ((o:Int)+(c:Int))=((o+c:Nat):Int):=by rw[i64_in (by omega)];omega
   rw[e0];by_cases h1:j<dy.length
   ·have hiy:ix dy (j:Int)=some ((y/10000^j%10000:Nat):Int):=by rw[hdy]at h1|-;exact ke h1
    rw[if_pos (decide_eq_true (by omega)),ex,hiy,Option.bind_some,Option.bind_some,←Int.natCast_mul];generalize D*(y/10000^j%10000)=Q at*;rw[i64_in (n:=(Q:Int)) (by omega),i64_in (by omega)];congr 1
   ·have h3:y/10000^j=0:=Classical.byContradiction fun h=>h1 (gy.2 h);rw[if_neg (by simp;omega),h3];simp
  rw[e1,Option.bind_some,Option.bind_some];have hdm:D*(y/10000^j)=D*(y/10000^j%10000)+10000*(D*(y/10000^(j+1))):=by
   rw[ep,←Nat.mul_assoc,Nat.mul_comm 10000 D,Nat.mul_assoc,←Nat.mul_add,Nat.mod_add_div]
  have hS:o+c+D*(y/10000^j%10000)<100000000:=by omega
  generalize hSe:o+c+D*(y/10000^j%10000)=S at*;have e3:Int.tmod (S:Int) 10000=((S%10000:Nat):Int):=by
   rw[Int.tmod_eq_emod_of_nonneg (by omega)];omega
  have e4:IntKind.i64.wrap (Int.tdiv (S:Int) 10000)=((S/10000:Nat):Int):=by
   rw[Int.tdiv_eq_ediv_of_nonneg (by omega),i64_in (by omega)];omega
  have e5:IntKind.i64.wrap ((j:Int)+1)=((j+1:Nat):Int):=by rw[i64_in (by omega)];omega
  rw[e3,e4,e5,Int.toNat_natCast];refine⟨_,_,rfl,by omega,by omega,tC hok (by omega) (by omega),by rw[List.length_set],?_⟩;rw[hset,←hV];have hk:c+D*(y/10000^j)+o=S%10000+10000*(S/10000+D*(y/10000^(j+1))):=by
   rw[hdm];generalize D*(y/10000^(j+1))=R at*;omega
  rw[show i+(j+1)=i+j+1 from rfl,Nat.pow_succ,Nat.mul_assoc];generalize 10000^(i+j)=P at*;generalize 10000*(S/10000+D*(y/10000^(j+1)))=U at*;generalize S%10000=s at*;generalize c+D*(y/10000^j)=C at*;have h2:P*C+P*o=P*s+P*U:=by rw[←Nat.mul_add,hk,Nat.mul_add]
  rw[Int.mul_sub,←Int.natCast_mul,←Int.natCast_mul];omega
theorem yY(x y:Nat)(hx:sm x)(hy:sm y):kX (aD x) (aD y)=some (aD (x*y)):=by
 have lx:(aD x).length<=4398046511104:=fS hx;have ly:(aD y).length<=4398046511104:=fS hy;have ew:IntKind.i64.wrap (((aD x).length:Int)+((aD y).length:Int))=(((aD x).length+(aD y).length:Nat):Int):=by rw[i64_in (by omega)];omega
 unfold kX;rw[ew,Int.toNat_natCast];refine cC ⟨by omega,by omega,by omega⟩ ?_;obtain⟨r,hr,hq⟩:=cx (body:=fun(s:Int×(List Int))=>jB (aD x) (aD y) s.1 s.2) (0,List.replicate ((aD x).length+(aD y).length) 0)
  (fun s=>∃i:Nat,s.1=(i:Int)/\i<=(aD x).length/\jG s.2/\s.2.length=(aD x).length+(aD y).length/\v10 s.2=((x%10000^i*y:Nat):Int))
  (fun s=>((aD x).length-s.1).toNat) (fun r=>jG r/\v10 r=((x*y:Nat):Int)/\r.length=(aD x).length+(aD y).length) ⟨0,rfl,Nat.zero_le _,xN _,List.length_replicate,by simp only[];rw[xe,Nat.pow_zero,Nat.mod_one,Nat.zero_mul];rfl⟩ (by
  rintro⟨i',out⟩ ⟨i,hi,hi1,hok,hl,hV⟩;simp only at hi hok hl hV|-;subst hi;unfold jB;by_cases hlt:i<(aD x).length
  ·left
   rw[if_pos (decide_eq_true (by omega))];have hT:x%10000^(i+1)*y<10000^(i+1+(aD y).length):=by
    rw[Nat.pow_add 10000 (i+1)];exact Nat.mul_lt_mul'' (Nat.mod_lt _ (mF _)) (kP y)
   have hsplit:x%10000^(i+1)=x%10000^i+10000^i*(x/10000^i%10000):=by
    rw[Nat.pow_succ,Nat.mod_mul]
   obtain⟨r,hr,hq⟩:=cx (body:=fun(s:Int×Int×(List Int))=>gj (aD x) (aD y) (i:Int) s.1 s.2.1 s.2.2) (0,0,out)
    (fun s=>∃c j:Nat,s.1=(c:Int)/\s.2.1=(j:Int)/\c<10000/\j<=(aD y).length+1/\jG s.2.2/\s.2.2.length=(aD x).length+(aD y).length/\v10 s.2.2+((10000^(i+j)*(c+x/10000^i%10000*(y/10000^j)):Nat):Int)=((x%10000^(i+1)*y:Nat):Int))
    (fun s=>((aD y).length+1-s.2.1).toNat) (fun r=>jG r/\r.length=(aD x).length+(aD y).length/\v10 r=((x%10000^(i+1)*y:Nat):Int))
    ⟨0,0,rfl,rfl,by decide,Nat.zero_le _,hok,hl,by
     simp only[];rw[hV,hsplit,Nat.add_zero,Nat.zero_add,Nat.pow_zero,Nat.div_one,Nat.add_mul,Nat.mul_assoc,Int.natCast_add]⟩ (by
    rintro⟨c',j',out'⟩ ⟨c,j,hc,hj,hc1,hj1,hok',hl',hV'⟩;simp only at hc hj hok' hl' hV'|-;subst hc;subst hj;rcases zb (aD x) (aD y) out' i j c y _ _ (Nat.mod_lt _ (by decide)) hc1 (Nat.le_trans lx (by decide)) (Nat.le_trans ly (by decide)) hlt (ke hlt) rfl hok' hl' hT hV' with⟨c2,out2,e,h1,h2,h3,h4,h5⟩|⟨e,h⟩
    ·left
     refine⟨_,e,⟨c2,j+1,rfl,rfl,h1,h2,h3,by simp only;omega,h5⟩,by simp only;omega⟩
    ·right
     exact⟨_,e,hok',hl',h⟩)
   obtain⟨q1,q2,q3⟩:=hq;rw[hr];simp only[Option.bind_some];have e5:IntKind.i64.wrap ((i:Int)+1)=((i+1:Nat):Int):=by rw[i64_in (by omega)];omega
   rw[e5];exact⟨_,rfl,⟨i+1,rfl,hlt,q1,q2,q3⟩,by simp only;omega⟩
  ·right
   rw[if_neg (by simp;omega)];have:i=(aD x).length:=by omega
   subst this;refine⟨_,rfl,hok,?_,hl⟩;rw[hV,Nat.mod_eq_of_lt (kP x)])
 obtain⟨h1,h2,h3⟩:=hq;rw[hr];simp only[Option.bind_some];rw[sY r h1 (by rw[h3];omega),h2,Option.bind_some,Int.toNat_natCast]
end Go.Am
namespace Go.Am
open Go.RowKit
theorem uM(x f:Nat)(hx:(aD x).length<=4398046511105)(hf:f<=4398046511105)(hb:x/10000^f<10000000000000000):fJ (aD x) (f:Int)=some ((x/10000^f:Nat):Int):=by
 unfold fJ;have e1:IntKind.i64.wrap (((aD x).length:Int)-1)=((aD x).length:Int)-1:=i64_in (by omega);rw[e1];by_cases hlf:(aD x).length<=f
 ·have hb:gh (aD x) (f:Int) 0 (((aD x).length:Int)-1)=some (.done 0):=by
   unfold gh;rw[if_neg (by simp;omega)]
  have hz:x/10000^f=0:=Classical.byContradiction fun h=>absurd ((jo f x).2 h) (by omega);rw[bW (body:=fun(s:Int×Int)=>gh (aD x) (f:Int) s.1 s.2) hb,hz];rfl
 obtain⟨r,hr,rfl⟩:=cx (body:=fun(s:Int×Int)=>gh (aD x) (f:Int) s.1 s.2) (0,(((aD x).length:Int)-1))
  (fun s=>∃k:Nat,s.2=(k:Int)-1/\f<=k/\k<=(aD x).length/\s.1=((x/10000^k:Nat):Int)) (fun s=>(s.2+1).toNat) (fun r=>r=((x/10000^f:Nat):Int)) ⟨_,rfl,by omega,Nat.le_refl _,by simp only[];rw[mO];rfl⟩ (by
  rintro⟨v,s⟩ ⟨k,hs,hk1,hk2,hv⟩;simp only at hs hv|-;subst hs;subst hv;unfold gh;by_cases hkf:k=f
  ·right
   subst hkf;rw[if_neg (by simp;omega)];exact⟨_,rfl,rfl⟩
  ·left
   obtain⟨k,rfl⟩:∃m,k=m+1:=⟨k-1,by omega⟩;have ek:((k+1:Nat):Int)-1=(k:Int):=by omega
   have hmono:x/10000^k<=x/10000^f:=Nat.div_le_div_left (Nat.pow_le_pow_right (by decide) (by omega)) (mF f);rw[ek,if_pos (decide_eq_true (by omega)),ke (by omega),Option.bind_some,ep];generalize hX:x/10000^k=X at*;refine⟨_,rfl,⟨k,?_,by omega,by omega,?_⟩,?_⟩
   ·simp only;rw[i64_in (by omega)]
   ·simp only;rw[hX,i64_in (n:=(((X/10000:Nat)):Int)*10000) (by omega),i64_in (by omega)];omega
   ·simp only;rw[i64_in (by omega)];omega)
 rw[hr];rfl
theorem zA(y:Nat)(hy:y≠0)(hsy:sm y)(R:Nat)(hR:sm R)(hq:R/y<10000)(g:Nat)(hg:y*g<=R):
  Loop (fun(s:(List Int)×Int)=>jk (aD y) s.1 s.2) (aD (R-y*g),(g:Int))=some (aD (R%y),((R/y:Nat):Int)):=by
 obtain⟨r,hr,rfl⟩:=cx (body:=fun(s:(List Int)×Int)=>jk (aD y) s.1 s.2) (aD (R-y*g),(g:Int))
  (fun s=>∃k:Nat,y*k<=R/\s=(aD (R-y*k),(k:Int))) (fun s=>(10000-s.2).toNat) (fun r=>r=(aD (R%y),((R/y:Nat):Int))) ⟨g,hg,rfl⟩ (by
  rintro s ⟨k,hk,rfl⟩;simp only;unfold jk;have hs:sm (R-y*k):=nu (Nat.sub_le _ _) hR;have hkq:k<=R/y:=(Nat.le_div_iff_mul_le (Nat.pos_of_ne_zero hy)).2 (by rw[Nat.mul_comm];exact hk);rw[uA _ _ hs hsy,Option.bind_some];by_cases hc:y<=R-y*k
  ·left
   have h2:y*(k+1)<=R:=by rw[Nat.mul_succ];omega
   have hkq2:k+1<=R/y:=(Nat.le_div_iff_mul_le (Nat.pos_of_ne_zero hy)).2 (by rw[Nat.mul_comm];exact h2);rw[if_pos (decide_eq_true (qz hc)),qm _ _ hs hc,Option.bind_some];have e:IntKind.i64.wrap ((k:Int)+1)=((k+1:Nat):Int):=by rw[i64_in (by omega)];omega
   rw[e];refine⟨_,rfl,⟨k+1,h2,?_⟩,by simp only;omega⟩;rw[Nat.mul_succ,Nat.sub_sub]
  ·right
   have hcm:fI (R-y*k) y=-1:=by unfold fI;rw[if_pos (by omega)]
   rw[hcm,if_neg (by decide)];refine⟨_,rfl,?_⟩;have h3:R/y=k:=by
    apply Nat.le_antisymm _ hkq;apply Nat.le_of_lt_succ;rw[Nat.div_lt_iff_lt_mul (Nat.pos_of_ne_zero hy),Nat.succ_mul,Nat.mul_comm k y];omega
   have h4:=Nat.div_add_mod R y;rw[h3]at h4;rw[h3,show R-y*k=R%y from by omega])
 exact hr
theorem CK(y R:Nat)(hy:y≠0)(ly:(aD y).length<=4398046511104)(lR:(aD R).length<=4398046511104)(hR:R<10000*y):
  ∃g:Nat,(if(decide (((aD y).length:Int)<=3))=true then(fJ (aD R) 0).bind fun v22=>(fJ (aD y) 0).bind fun v24=>cj ((v24:Int)≠0) (some ((IntKind.i64.wrap (Int.tdiv v22 v24))))else(if(decide (((aD R).length:Int)>=((aD y).length:Int)))=true then(fJ (aD R) (IntKind.i64.wrap (((aD y).length:Int)-3))).bind fun v28=>(fJ (aD y) (IntKind.i64.wrap (((aD y).length:Int)-3))).bind fun v30=>cj (((IntKind.i64.wrap (v30+1)):Int)≠0) (some ((IntKind.i64.wrap (Int.tdiv v28 (IntKind.i64.wrap (v30+1))))))else some (0)))=some (g:Int)/\g<=R/y:=by
 have hby:=kP y;by_cases h3:(aD y).length<=3
 ·rw[if_pos (decide_eq_true (by omega))];have hy3:y<1000000000000:=Nat.lt_of_lt_of_le hby (show(10000:Nat)^(aD y).length<=10000^3 from Nat.pow_le_pow_right (by decide) h3);have e1:=uM R 0 (by omega) (by omega) (by rw[Nat.pow_zero,Nat.div_one];omega);have e2:=uM y 0 (by omega) (by omega) (by rw[Nat.pow_zero,Nat.div_one];omega);rw[Nat.pow_zero,Nat.div_one]at e1 e2;have e1':fJ (aD R) 0=some (R:Int):=e1;have e2':fJ (aD y) 0=some (y:Int):=e2;rw[e1',e2',Option.bind_some,Option.bind_some];refine⟨R/y,cC (by omega) ?_,Nat.le_refl _⟩;have hq:R/y<=R:=Nat.div_le_self _ _;rw[Int.tdiv_eq_ediv_of_nonneg (by omega),←Int.natCast_ediv];generalize R/y=q at*;rw[i64_in (by omega)]
 ·rw[if_neg (by simp;omega)];by_cases hl:(aD y).length<=(aD R).length
  ·rw[if_pos (decide_eq_true (by omega))];obtain⟨f,hf⟩:∃f,(aD y).length=f+3:=⟨(aD y).length-3,by omega⟩;have ef:IntKind.i64.wrap (((aD y).length:Int)-3)=(f:Int):=by rw[i64_in (by omega)];omega
   rw[hf,Nat.pow_add]at hby;have hp:=mF f;have h4:y/10000^f<10000^3:=Nat.div_lt_of_lt_mul hby;have h5:R/10000^f<10000^4:=by
    apply Nat.div_lt_of_lt_mul;rw[show 10000^f*10000^4=10000*(10000^f*10000^3)from by rw[←Nat.pow_add,←Nat.pow_add,←Nat.pow_succ']];omega
   have p3:(10000:Nat)^3=1000000000000:=by decide
   have p4:(10000:Nat)^4=10000000000000000:=by decide
   rw[p3]at h4;rw[p4]at h5;have hf2:f<=4398046511105:=by omega
   rw[ef,uM R f (by omega) hf2 h5,uM y f (by omega) hf2 (by omega),Option.bind_some,Option.bind_some];have hg:R/10000^f/(y/10000^f+1)<=R/y:=by
    rw[Nat.div_div_eq_div_mul];apply Nat.div_le_div_left _ (Nat.pos_of_ne_zero hy);have:=Nat.div_add_mod y (10000^f);have:=Nat.mod_lt y hp;rw[Nat.mul_succ];omega
   generalize R/10000^f=A at*;generalize y/10000^f=C at*;have e6:IntKind.i64.wrap ((C:Int)+1)=((C+1:Nat):Int):=by rw[i64_in (by omega)];omega
   rw[e6];refine⟨A/(C+1),cC (by omega) ?_,hg⟩;have hq:A/(C+1)<=A:=Nat.div_le_self _ _;rw[Int.tdiv_eq_ediv_of_nonneg (by omega),←Int.natCast_ediv];generalize A/(C+1)=q at*;rw[i64_in (by omega)]
  ·rw[if_neg (by simp;omega)];exact⟨0,rfl,Nat.zero_le _⟩
theorem Bv(x y i:Nat)(out:List Int)(hy:y≠0)(hx:sm x)(hsy:sm y)(hi:i<(aD x).length)(hol:out.length=(aD x).length):
  iy (aD x) (aD y) (aD (x/10000^(i+1)%y)) (i:Int) out=some (.next (aD (x/10000^i%y),(i:Int)-1,out.set i (((x/10000^i%10000+10000*(x/10000^(i+1)%y))/y:Nat):Int))):=by
 have lx:=fS hx;have ly:=fS hsy;unfold iy;rw[if_pos (decide_eq_true (by omega)),ke hi,Option.bind_some];have hXx:x/10000^i<=x:=Nat.div_le_self _ _;rw[ep];generalize x/10000^i=X at*;have hρ:X/10000%y<=X/10000:=Nat.mod_le _ _;have hρy:X/10000%y<y:=Nat.mod_lt _ (Nat.pos_of_ne_zero hy);have hmod:X%y=(X%10000+10000*(X/10000%y))%y:=by
  conv=>lhs;rw[←Nat.mod_add_div X 10000]
  rw[Nat.add_mod,Nat.mul_mod,Nat.add_mod (X%10000),Nat.mul_mod 10000 (X/10000%y),Nat.mod_mod]
 rw[hmod];generalize hr:X/10000%y=ρ at*;generalize hd:X%10000=d at*;have hd4:d<10000:=by omega
 have hRx:d+10000*ρ<=x:=by omega
 have hRs:sm (d+10000*ρ):=nu hRx hx;have lρ:(aD ρ).length<=4398046511104:=fS (nu (by omega) hRs);have htr:jD ([(d:Int)]++aD ρ)=some (aD (d+10000*ρ)):=by
  rw[sY _ (by rw[List.singleton_append,dV];exact⟨⟨by omega,by omega⟩,Bq _⟩) (by simp only[List.length_append,List.length_cons,List.length_nil];omega)]
  congr 2
  rw[List.singleton_append,v10,tM];omega
 rw[aQ ⟨by simp only[List.length_cons,List.length_nil];omega,by simp only[List.length_cons,List.length_nil];omega⟩,htr,Option.bind_some];have hR:d+10000*ρ<10000*y:=by omega
 generalize d+10000*ρ=R at*;obtain⟨g,eg,hg⟩:=CK y R hy ly (fS hRs) hR;rw[eg,Option.bind_some];have hq:R/y<10000:=by rw[Nat.div_lt_iff_lt_mul (Nat.pos_of_ne_zero hy)];exact hR
 have hgi:fm (g:Int):=by unfold fm;omega
 rw[oZ _ hgi,Option.bind_some];dsimp only;have hyg:y*g<=R:=by rw[Nat.mul_comm];exact(Nat.le_div_iff_mul_le (Nat.pos_of_ne_zero hy)).1 hg
 rw[Int.natAbs_natCast,yY y g hsy (jC (by omega)),Option.bind_some,qm R (y*g) hRs hyg,Option.bind_some,zA y hy hsy R hRs hq g hyg,Option.bind_some];dsimp only;rw[fU (by omega),Option.bind_some,i64_in (by omega),Int.toNat_natCast]
theorem wK(x y:Nat)(hy:y≠0)(hx:sm x)(hsy:sm y):lk (aD x) (aD y)=some (aD (x/y),aD (x%y)):=by
 have lx:=fS hx;unfold lk;refine cC ⟨by omega,by omega,by omega⟩ ?_;have e1:IntKind.i64.wrap (((aD x).length:Int)-1)=((aD x).length:Int)-1:=i64_in (by omega);rw[e1,Int.toNat_natCast];obtain⟨r,hr,hq⟩:=cx (body:=fun(s:(List Int)×Int×(List Int))=>iy (aD x) (aD y) s.1 s.2.1 s.2.2) ([],(((aD x).length:Int)-1),List.replicate (aD x).length 0)
  (fun s=>∃k:Nat,s.2.1=(k:Int)-1/\k<=(aD x).length/\s.1=aD (x/10000^k%y)/\s.2.2.length=(aD x).length/\jG s.2.2/\(∀j,j<k->s.2.2[j]?=some 0)/\v10 s.2.2=((10000^k*(x/10000^k/y):Nat):Int))
  (fun s=>(s.2.1+1).toNat) (fun r=>r.1=aD (x%y)/\r.2.length=(aD x).length/\jG r.2/\v10 r.2=((x/y:Nat):Int)) ⟨_,rfl,Nat.le_refl _,by simp only[];rw[mO,Nat.zero_mod,dB],List.length_replicate,xN _,fun j hj=>by simp only[];rw[List.getElem?_replicate,if_pos hj],by simp only[];rw[xe,mO,Nat.zero_div,Nat.mul_zero];rfl⟩ (by
  rintro⟨r,s,out⟩ ⟨k,hs,hk,hr,hl,hok,hz,hV⟩;simp only at hs hr hl hok hz hV|-;subst hs;subst hr
  cases k with
  |zero=>
   right
   unfold iy;rw[if_neg (by decide)];refine⟨_,rfl,?_,hl,hok,?_⟩
   ·simp only[];rw[Nat.pow_zero,Nat.div_one]
   ·simp only[];rw[hV,Nat.pow_zero,Nat.div_one,Nat.one_mul]
  |succ i=>
   left
   have ek:((i+1:Nat):Int)-1=(i:Int):=by omega
   rw[ek,Bv x y i out hy hx hsy (by omega) hl];have hoi:=hz i (by omega);rw[List.getElem?_eq_getElem (by omega)]at hoi;injection hoi with hoi;have hQ:(x/10000^i%10000+10000*(x/10000^(i+1)%y))/y<10000:=by
    have:=Nat.mod_lt (x/10000^(i+1)) (Nat.pos_of_ne_zero hy);rw[Nat.div_lt_iff_lt_mul (Nat.pos_of_ne_zero hy)];omega
   refine⟨_,rfl,⟨i,rfl,by omega,rfl,by simp only[];rw[List.length_set];exact hl,tC hok (Int.natCast_nonneg _) (Int.ofNat_lt.2 hQ),?_,?_⟩,by simp only[];omega⟩
   ·intro j hj;simp only[];rw[List.getElem?_set_ne (by omega)];exact hz j (by omega)
   ·simp only[];rw[xq (by omega),hoi,hV,Int.sub_zero,←Int.natCast_mul,←Int.natCast_add]
    congr 1
    rw[Nat.pow_succ,Nat.mul_assoc,←Nat.mul_add]
    congr 1
    rw[←Nat.pow_succ,ep];generalize x/10000^i=X;have h1:X=X%10000+10000*(X/10000%y)+y*(10000*(X/10000/y)):=by
     have h2:=Nat.mod_add_div (X/10000) y;have h3:=Nat.mod_add_div X 10000;have h4:y*(10000*(X/10000/y))=10000*(y*(X/10000/y)):=by rw[←Nat.mul_assoc,Nat.mul_comm y 10000,Nat.mul_assoc]
     rw[h4];omega
    conv=>rhs;rw[h1]
    rw[Nat.add_mul_div_left _ _ (Nat.pos_of_ne_zero hy)];omega)
 obtain⟨h1,h2,h3,h4⟩:=hq;rw[hr];simp only[Option.bind_some];rw[sY r.2 h3 (by omega),h4,Option.bind_some,Int.toNat_natCast,h1]
end Go.Am
namespace Go.Am
open Go.RowKit
theorem xM(n:Nat):decide (((aD n).length:Int)>0)=decide (n≠0):=by
 by_cases h:n=0
 ·subst h;rw[dB];rfl
 ·have:(aD n).length≠0:=fun k=>h (rH.1 k);rw[decide_eq_true h,decide_eq_true (by omega)]
theorem B5(n:Nat):(((aD n).length:Int)==0)=decide (n=0):=by
 by_cases h:n=0
 ·subst h;rw[dB];rfl
 ·have:(aD n).length≠0:=fun k=>h (rH.1 k);rw[decide_eq_false h,beq_eq_false_iff_ne];omega
theorem mW(neg:Bool)(n:Nat):eG neg (aD n)=some (decide (sg neg n<0),aD (sg neg n).natAbs):=by
 unfold eG;rw[oj,xM];cases neg
 ·rw[if_neg (by decide)];unfold sg;rw[if_neg (by decide),decide_eq_false (by omega)]
 ·rw[if_pos rfl];unfold sg;rw[if_pos rfl];by_cases h:n=0
  ·subst h;rfl
  ·rw[decide_eq_true h,decide_eq_true (by omega)]
theorem xn(z:Int):lC (decide (z<0)) (aD z.natAbs)=some (decide (-z<0),aD (-z).natAbs):=by
 unfold lC;rw[mW,Eo];rfl
theorem Fs(z w:Int)(hz:sm z.natAbs)(hw:sm w.natAbs):oi (decide (z<0)) (aD z.natAbs) (decide (w<0)) (aD w.natAbs)=some (decide (z+w<0),aD (z+w).natAbs):=by
 unfold oi;have e1:∀(neg:Bool) (n:Nat),sg neg n=z+w->eG neg (aD n)=some (decide (z+w<0),aD (z+w).natAbs):=fun neg n h=>by rw[mW,h]
 by_cases hs:(decide (z<0)==decide (w<0))=true
 ·rw[if_pos hs,FB _ _ hz hw,Option.bind_some,e1]
  ·rfl
  ·unfold sg;rw[beq_iff_eq]at hs;by_cases h:z<0
   ·rw[decide_eq_true h]at*;have hs:=of_decide_eq_true hs.symm;rw[if_pos rfl];omega
   ·rw[decide_eq_false h]at*;have hs:=of_decide_eq_false hs.symm;rw[if_neg (by decide)];omega
 ·rw[if_neg hs,uA _ _ hz hw,Option.bind_some];have hs2:(z<0/\0<=w)\/(0<=z/\w<0):=by
   rw[beq_iff_eq]at hs;by_cases h:z<0<;>by_cases k:w<0
   ·rw[decide_eq_true h,decide_eq_true k]at hs;exact absurd rfl hs
   ·left;omega
   ·right;omega
   ·rw[decide_eq_false h,decide_eq_false k]at hs;exact absurd rfl hs
  by_cases hc:w.natAbs<=z.natAbs
  ·rw[if_pos (decide_eq_true (qz hc)),qm _ _ hz hc,Option.bind_some,e1]
   ·rfl
   ·unfold sg;split<;>rename_i h<;>simp only[decide_eq_true_eq]at h<;>omega
  ·have:fI z.natAbs w.natAbs=-1:=by unfold fI;rw[if_pos (by omega)]
   rw[this,if_neg (by decide),qm _ _ hw (by omega),Option.bind_some,e1]
   ·rfl
   ·unfold sg;split<;>rename_i h<;>simp only[decide_eq_true_eq]at h<;>omega
theorem sN(z w:Int)(hz:sm z.natAbs)(hw:sm w.natAbs):ff (decide (z<0)) (aD z.natAbs) (decide (w<0)) (aD w.natAbs)=some (decide (z*w<0),aD (z*w).natAbs):=by
 unfold ff;rw[yY _ _ hz hw,Option.bind_some,mW,zO];rfl
theorem Gb(z w:Int)(hz:sm z.natAbs)(hw:sm w.natAbs):lN (decide (z<0)) (aD z.natAbs) (decide (w<0)) (aD w.natAbs)=some (B0 z w):=by
 unfold lN B0;by_cases h:z<0<;>by_cases k:w<0
 ·rw[decide_eq_true h,decide_eq_true k,if_neg (by decide),if_pos rfl,uA _ _ hw hz];simp only[Option.bind_some,fI];congr 1;split<;>split<;>(try split)<;>(try split)<;>omega
 ·rw[decide_eq_true h,decide_eq_false k,if_pos (by decide),if_pos rfl,if_pos (by omega)]
 ·rw[decide_eq_false h,decide_eq_true k,if_pos (by decide),if_neg (by decide),if_neg (by omega),if_pos (by omega)]
 ·rw[decide_eq_false h,decide_eq_false k,if_neg (by decide),if_neg (by decide),uA _ _ hz hw];simp only[Option.bind_some,fI];congr 1;split<;>split<;>(try split)<;>(try split)<;>omega
theorem yA(nb:Bool)(n:Nat)(hn:sm n):kY nb (aD n)=some (if n<10000000000000000 then((n:Int),true)else(0,false)):=by
 have ln:=fS hn;have p4:(10000:Nat)^4=10000000000000000:=by decide
 unfold kY;by_cases h:(aD n).length<=4
 ·have hlt:n<10000000000000000:=Nat.lt_of_lt_of_le (kP n) (p4▸Nat.pow_le_pow_right (by decide) h);rw[if_neg (by simp;omega),if_pos hlt];have ht:=uM n 0 (by omega) (by decide) (by rw[Nat.pow_zero,Nat.div_one];exact hlt);rw[Nat.pow_zero,Nat.div_one]at ht;have ht:fJ (aD n) 0=some (n:Int):=ht;have:kR (aD n)=gh (aD n) 0:=rfl;rw[this];unfold fJ at ht;obtain⟨r,hr,h2⟩:=bind_some ht;rw[hr];injection h2 with h2;rw[h2];rfl
 ·have hge:¬n<10000000000000000:=by
   intro hc;apply h;exact rU (p4▸hc)
  rw[if_pos (decide_eq_true (by omega)),if_neg hge]
theorem Bt:kq=gA:=rfl
theorem E9(na nb:Bool)(x y:Nat)(hx:sm x)(hy:sm y):nW na (aD x) nb (aD y)=some (false,aD (Nat.gcd x y)):=by
 obtain⟨r,hr,hq⟩:=cx (body:=fun(s:(List Int)×(List Int))=>ko s.1 s.2) (aD x,aD y) (fun s=>∃a b:Nat,s=(aD a,aD b)/\sm a/\sm b/\Nat.gcd a b=Nat.gcd x y) (fun s=>(v10 s.2).toNat) (fun r=>r=Ex.cd (aD (Nat.gcd x y))\/r=Ex.ret (false,aD (Nat.gcd x y))) ⟨x,y,rfl,hx,hy,rfl⟩ (by
  rintro s ⟨a,b,rfl,ha,hb,hg⟩;simp only;unfold ko;rw[xM];by_cases h0:b=0
  ·right
   subst h0;rw[Nat.gcd_zero_right]at hg;rw[if_neg (by decide)];exact⟨_,rfl,.inl (by rw[hg])⟩
  rw[if_pos (decide_eq_true h0),yA _ _ ha,Option.bind_some];rw[yA _ _ hb];simp only[Option.bind_some];by_cases h2:a<10000000000000000/\b<10000000000000000
  ·right
   rw[if_pos h2.1,if_pos h2.2];dsimp only;rw[if_pos rfl,if_pos rfl,Bt,vT,Option.bind_some];have hgle:Nat.gcd a b<=b:=Nat.gcd_le_right _ (Nat.pos_of_ne_zero h0);rw[oZ _ (by unfold fm;omega),Option.bind_some];dsimp only;rw[Option.bind_some,Int.natAbs_natCast,hg,decide_eq_false (by omega)];exact⟨_,rfl,.inr rfl⟩
  ·left
   have hgo:∀(u v:Int×Bool),u=(if a<10000000000000000 then((a:Int),true)else(0,false))->v=(if b<10000000000000000 then((b:Int),true)else(0,false))->
    (if u.2=true then(if v.2=true then(Loop (fun(s:Int×Int)=>kq s.1 s.2) (u.1,v.1)).bind fun v30=>(fQ v30).bind fun(v31,v32)=>some (Ex.ret (v31,v32))else some (Ex.cd ()))else some (Ex.cd ()):Option (Ex Unit (Bool×List Int)))=some (Ex.cd ()):=by
    intro u v hu hv;by_cases h3:a<10000000000000000
    ·have h4:¬b<10000000000000000:=fun h=>h2 ⟨h3,h⟩;rw[if_neg h4]at hv;rw[if_pos h3]at hu;subst hu;subst hv;rw[if_pos rfl,if_neg (by decide)]
    ·rw[if_neg h3]at hu;subst hu;rw[if_neg (by decide)]
   have:=hgo _ _ rfl rfl;rw[this,Option.bind_some];dsimp only;rw[wK a b h0 ha hb,Option.bind_some];refine⟨_,rfl,⟨b,a%b,rfl,hb,nu (Nat.le_of_lt (Nat.mod_lt _ (Nat.pos_of_ne_zero h0))) hb,?_⟩,?_⟩
   ·rw[←hg,Nat.gcd_comm a b,Nat.gcd_rec b a,Nat.gcd_comm]
   ·simp only[tM,Int.toNat_natCast];exact Nat.mod_lt _ (Nat.pos_of_ne_zero h0))
 unfold nW;rw[hr];rcases hq with rfl|rfl<;>rfl
theorem mg(n:Nat):decide ((n:Int)<0)=false:=decide_eq_false (by omega)
end Go.Am
namespace Go.Am
open Go.RowKit
def dP:Nat->Nat->List Int
 |0,_=>[]
 |k+1,x=>((48+x%10:Nat):Int)::dP k (x/10)
theorem Av:∀k x,dP (k+1) x=dP k x++[((48+x/10^k%10:Nat):Int)]
 |0,x=>by simp[dP]
 |k+1,x=>by
  rw[dP,Av k (x/10),dP,List.cons_append,Nat.div_div_eq_div_mul,Nat.pow_succ,Nat.mul_comm]
theorem Ei:∀k x,(dP k x).length=k
 |0,_=>rfl
 |k+1,x=>by rw[dP,List.length_cons,Ei k]
theorem GZ:∀(m n:Nat),n<10^m->∃k,dP m n=dR n++List.replicate k 48
 |0,n,h=>by
  have:n=0:=by rw[Nat.pow_zero]at h;omega
  subst this;exact⟨0,by rw[j7];rfl⟩
 |m+1,n,h=>by
  rw[Nat.pow_succ]at h;obtain⟨k,hk⟩:=GZ m (n/10) (by omega);by_cases h0:n=0
  ·subst h0;rw[Nat.zero_div,j7,List.nil_append]at hk;exact⟨k+1,by rw[dP,Nat.zero_div,hk,j7];rfl⟩
  ·exact⟨k,by rw[dP,hk,nU h0];rfl⟩
theorem Bh:∀(n:Nat),n≠0->∃d l,dR n=l++[((48+d:Nat):Int)]/\1<=d/\d<=9
 |n,h=>by
  rw[nU h];by_cases h1:n/10=0
  ·exact⟨n%10,[],by rw[h1,j7];rfl,by omega,by omega⟩
  ·obtain⟨d,l,e,k⟩:=Bh (n/10) h1;exact⟨d,_::l,by rw[e];rfl,k⟩
termination_by n=>n
decreasing_by exact Nat.div_lt_self (Nat.pos_of_ne_zero h) (by decide)
theorem zQ:∀d:Nat,d<10->(List.drop d (List.take (d+1) ([48,49,50,51,52,53,54,55,56,57]:List UInt8)))=[UInt8.ofNat (48+d)]:=by decide
theorem zJ{X j:Nat}(hj:j<4):X%10000/10^j%10=X/10^j%10:=by
 rcases j with _|_|_|_|j
 ·simp only[Nat.pow_zero];omega
 ·rw[show 10^(0+1)=10 from rfl];omega
 ·rw[show 10^(0+1+1)=100 from rfl];omega
 ·rw[show 10^(0+1+1+1)=1000 from rfl];omega
 ·omega
theorem wX(t:List UInt8)(X j:Nat)(hX:X<10000)(hj:j<4)(ht:t.length<=100000000000000):
  eS t (X:Int) (j:Int)=some (.next (UInt8.ofNat (48+X%10)::t,((X/10:Nat):Int),((j+1:Nat):Int))):=by
 unfold eS;have e1:Int.tmod (X:Int) 10=((X%10:Nat):Int):=by rw[Int.tmod_eq_emod_of_nonneg (by omega)];omega
 have e2:IntKind.i64.wrap (((X%10:Nat):Int)+1)=((X%10+1:Nat):Int):=by rw[i64_in (by omega)];omega
 have e3:IntKind.i64.wrap (Int.tdiv (X:Int) 10)=((X/10:Nat):Int):=by
  rw[Int.tdiv_eq_ediv_of_nonneg (by omega),i64_in (by omega)];omega
 have e4:IntKind.i64.wrap ((j:Int)+1)=((j+1:Nat):Int):=by rw[i64_in (by omega)];omega
 rw[if_pos (decide_eq_true (by omega)),e1,e2,e3,e4,Int.toNat_natCast,Int.toNat_natCast,zQ _ (Nat.mod_lt _ (by decide))];exact cC ⟨by omega,by omega,by simp only[List.length_cons,List.length_nil];omega⟩ (cC (by simp only[List.length_cons,List.length_nil];omega) rfl)
theorem wA(t:List UInt8)(X:Int):eS t X 4=some (.done t):=by
 unfold eS;rw[if_neg (by decide)]
theorem uO(a b:List Int):bytesOf (a++b)=bytesOf a++bytesOf b:=List.map_append
theorem z_(k x:Nat):bytesOf (dP (k+1) x).reverse=UInt8.ofNat (48+x/10^k%10)::bytesOf (dP k x).reverse:=by
 rw[Av,List.reverse_append];simp only[List.reverse_cons,List.reverse_nil,List.nil_append,List.singleton_append,bytesOf,List.map_cons,Int.toNat_natCast]
theorem yX(i:Nat):10^(4*i)=10000^i:=by rw[Nat.pow_mul]
theorem zn(n i:Nat)(hi:i<=4398046511104):Loop (fun(s:(List UInt8)×Int×Int)=>eS s.1 s.2.1 s.2.2) (bytesOf (dP (4*i) n).reverse,((n/10000^i%10000:Nat):Int),0)=some (bytesOf (dP (4*(i+1)) n).reverse):=by
 have hlen:∀m x,(bytesOf (dP m x).reverse).length=m:=by intro m x;unfold bytesOf;rw[List.length_map,List.length_reverse,Ei]
 have hd:∀j,j<4->n/10000^i%10000/10^j%10=n/10^(4*i+j)%10:=by
  intro j hj;rw[zJ hj,Nat.pow_add,yX,Nat.div_div_eq_div_mul]
 have hX:n/10000^i%10000<10000:=Nat.mod_lt _ (by decide);generalize n/10000^i%10000=X at*;obtain⟨r,hr,rfl⟩:=cx (body:=fun(s:(List UInt8)×Int×Int)=>eS s.1 s.2.1 s.2.2) (bytesOf (dP (4*i) n).reverse,(X:Int),0)
  (fun s=>∃j:Nat,j<=4/\s=(bytesOf (dP (4*i+j) n).reverse,((X/10^j:Nat):Int),(j:Int))) (fun s=>(4-s.2.2).toNat) (fun r=>r=bytesOf (dP (4*(i+1)) n).reverse) ⟨0,by omega,by rw[Nat.pow_zero,Nat.div_one];rfl⟩ (by
  rintro s ⟨j,hj,rfl⟩;simp only;by_cases h4:j=4
  ·right
   subst h4;exact⟨_,wA _ _,rfl⟩
  ·left
   have hlt:X/10^j<10000:=Nat.lt_of_le_of_lt (Nat.div_le_self _ _) hX;rw[wX _ _ j hlt (by omega) (by rw[hlen];omega)];refine⟨_,rfl,⟨j+1,by omega,?_⟩,by simp only;omega⟩;rw[←Nat.add_assoc,z_,hd j (by omega),Nat.div_div_eq_div_mul,←Nat.pow_succ])
 exact hr
theorem zS(n:Nat)(hn:sm n):Loop (fun(s:(List UInt8)×Int)=>iG (aD n) s.1 s.2) (([]:List UInt8),0)=some (bytesOf (dP (4*(aD n).length) n).reverse):=by
 have ln:=fS hn;obtain⟨r,hr,rfl⟩:=cx (body:=fun(s:(List UInt8)×Int)=>iG (aD n) s.1 s.2) (([]:List UInt8),0)
  (fun s=>∃i:Nat,i<=(aD n).length/\s=(bytesOf (dP (4*i) n).reverse,(i:Int))) (fun s=>((aD n).length-s.2).toNat) (fun r=>r=bytesOf (dP (4*(aD n).length) n).reverse) ⟨0,Nat.zero_le _,rfl⟩ (by
  rintro s ⟨i,hi,rfl⟩;simp only;unfold iG;by_cases h:i<(aD n).length
  ·left
   rw[if_pos (decide_eq_true (by omega)),ke h,Option.bind_some,zn n i (by omega)];simp only[Option.bind_some];have e4:IntKind.i64.wrap ((i:Int)+1)=((i+1:Nat):Int):=by rw[i64_in (by omega)];omega
   rw[e4];exact⟨_,rfl,⟨i+1,h,rfl⟩,by simp only;omega⟩
  ·right
   rw[if_neg (by simp;omega)];exact⟨_,rfl,by rw[show i=(aD n).length from by omega]⟩)
 exact hr
theorem Dg(k:Nat)(c:UInt8)(t:List UInt8)(hc:c≠48):Loop (fun(s:(List UInt8))=>iC s) (List.replicate k 48++c::t)=some (c::t):=by
 obtain⟨r,hr,rfl⟩:=cx (body:=fun(s:(List UInt8))=>iC s) (List.replicate k 48++c::t) (fun s=>∃k,s=List.replicate k 48++c::t) (fun s=>s.length) (fun r=>r=c::t) ⟨k,rfl⟩ (by
  rintro s ⟨k,rfl⟩;unfold iC
  cases k with
  |zero=>
   right
   have h1:ix (List.replicate 0 48++c::t) 0=some c:=rfl;have h2:¬((c.toNat:Int)==48)=true:=by
    rw[beq_iff_eq];intro h;apply hc;apply UInt8.toNat_inj.1;rw[show(48:UInt8).toNat=48 from rfl];omega
   rw[h1,Option.bind_some,if_neg h2];exact⟨_,rfl,rfl⟩
  |succ k=>
   left
   have h1:ix (List.replicate (k+1) 48++c::t) 0=some 48:=rfl;rw[h1,Option.bind_some,if_pos (by decide)];refine⟨_,cC ⟨by omega,?_⟩ rfl,⟨k,rfl⟩,?_⟩
   ·simp only[List.replicate_succ,List.cons_append,List.length_cons];omega
   ·simp only[List.replicate_succ,List.cons_append,List.length_cons,show(1:Int).toNat=1 from rfl,List.drop_succ_cons,List.drop_zero];omega)
 exact hr
theorem Ct(k:Nat):bytesOf (List.replicate k 48)=List.replicate k 48:=by
 unfold bytesOf;rw[List.map_replicate];rfl
theorem yJ(neg:Bool)(n:Nat)(hn:sm n)(h0:n=0->neg=false):kZ neg (aD n)=some ((if neg then [45]else [])++iN n):=by
 have ln:=fS hn;unfold kZ;rw[B5];by_cases hz:n=0
 ·subst hz;rw[h0 rfl];rfl
 ·rw[if_neg (by simpa using hz),zS n hn];simp only[Option.bind_some];obtain⟨k,hk⟩:=GZ (4*(aD n).length) n (by rw[yX];exact kP n);obtain⟨d,l,e,hd1,hd2⟩:=Bh n hz;have hdec:iN n=UInt8.ofNat (48+d)::bytesOf l.reverse:=by
   unfold iN;rw[if_neg hz,e,List.reverse_append];simp only[List.reverse_cons,List.reverse_nil,List.nil_append,List.singleton_append,bytesOf,List.map_cons,Int.toNat_natCast]
  have hall:bytesOf (dP (4*(aD n).length) n).reverse=List.replicate k 48++iN n:=by
   rw[hk,List.reverse_append,List.reverse_replicate,uO,Ct];unfold iN;rw[if_neg hz]
  have hne:UInt8.ofNat (48+d)≠48:=by
   intro h;have h1:=congrArg UInt8.toNat h;rw[UInt8.toNat_ofNat',show(48:UInt8).toNat=48 from rfl]at h1;omega
  rw[hall,hdec,Dg k _ _ hne,Option.bind_some,←hdec];have hl:(iN n).length<=4398046511105:=nR hn;cases neg
  ·rw[if_neg (by decide),if_neg (by decide)];rfl
  ·rw[if_pos rfl,if_pos rfl];exact cC (by simp only[List.length_cons,List.length_nil];omega) rfl
theorem Cl:∀(s:List UInt8),vf s->kN s<10^s.length:=by
 intro s;have key:∀(n:Nat) (l:List UInt8),l.length=n->vf l->kN l<10^n:=by
  intro n
  induction n with
  |zero=>intro l hl _;rw[List.length_eq_zero_iff.1 hl];simp[kN]
  |succ n ih=>
   intro l hl hd;have hne:l≠[]:=by intro h;rw[h]at hl;simp at hl
   obtain⟨m,b,rfl⟩:∃m b,l=m++[b]:=⟨l.dropLast,l.getLast hne,(List.dropLast_concat_getLast hne).symm⟩;have hm:m.length=n:=by simpa using hl
   have h1:=ih m hm (fun c hc=>hd c (by simp[hc]));have h2:=hd b (by simp);rw[oO,Nat.pow_succ];omega
 exact key s.length s rfl
theorem Gj{s:List UInt8}(hd:vf s)(hl:s.length<=1000000000000):bN (kN s)<=4*s.length:=by
 have:=Cl s hd;refine ir.2 (Nat.lt_of_lt_of_le this ?_);rw[Nat.pow_mul];exact Nat.pow_le_pow_left (by decide) _
end Go.Am
namespace Go.Am
open Go.RowKit
set_option maxRecDepth 100000
noncomputable section
def dT(a1:Bool)(a2:List Int)(a3:Bool)(a4:List Int):Option (Bool×(List Int)):=(if((a4.length:Int)==0)=true then(fQ 1).bind fun(v6,v7)=>some (v6,v7)else some (a3,a4))
theorem fq{a1:Bool}{a2:List Int}{a3:Bool}{a4:List Int}{r9:Bool}{r10:List Int}(h:dT a1 a2 a3 a4=some (r9,r10)):bf PP 173 [] [D.agg ([D.bool a1,ai (ak.int .i64) a2,D.bool a3,ai (ak.int .i64) a4])] [] (D.agg ([D.bool r9,ai (ak.int .i64) r10])):=by
 unfold dT at h;refine .of Go.Proofs.Tryz.func173 rfl (by kernel_rfl) rfl rfl rfl rfl rfl rfl (fun A w0 L b=>?_);show Ok PP _ [(0,D.agg ([D.bool a1,ai (ak.int .i64) a2,D.bool a3,ai (ak.int .i64) a4]))] [] _ _;refine .al (.iP rfl rfl<|.fN ([D.bool false,D.nil]) cn ⟨.refl _,.refl _,trivial⟩ rfl<|.nil) rfl ?_;refine .sq ?_;refine .al (.fa rfl mJ<|.fa rfl aH<|.bu (ai (ak.int .i64) a4) rfl rfl cH rfl<|.ec rfl bK<|.cm rfl rfl rfl<|.nil) rfl ?_;by_cases c5:((a4.length:Int)==0)=true
 ·replace h:=ab c5 h;refine .cl rfl c5 ?_;obtain⟨⟨v6,v7⟩,e8,h⟩:=bind_some h;refine .al (.ag (lM e8) ⟨rfl,trivial⟩ trivial trivial<|.cU ([D.bool v6,ai (ak.int .i64) v7]) rfl rfl rfl ax rfl rfl rfl<|.nil) rfl ?_;cases h;refine .aO (fun _ _ hb=>hb) rfl (.cons (.agg rfl rfl ax rfl) .nil) (.refl _) trivial trivial
 ·replace h:=aa c5 h;refine .cq rfl c5 ?_;refine .skip (Ok.on ?_);refine .al (.fa rfl mJ<|.ck ([D.bool a3,ai (ak.int .i64) a4]) rfl rfl ax rfl rfl<|.cU ([D.bool a3,ai (ak.int .i64) a4]) rfl rfl rfl ax rfl rfl rfl<|.nil) rfl ?_;cases h;refine .aO (fun _ _ hb=>hb) rfl (.cons (.agg rfl rfl ax rfl) .nil) (.refl _) trivial trivial
def i3(a1:Bool)(a2:List Int)(a3:Bool)(a4:List Int):Option ((Bool×(List Int))×(Bool×(List Int))):=((if a3=true then(lC a1 a2).bind fun(v8,v9)=>(lC a3 a4).bind fun(v11,v12)=>some ((v8,v9,v11,v12))else some ((a1,a2,a3,a4)))).bind fun(v14,v15,v16,v17)=>(nW v14 v15 v16 v17).bind fun(v18,v19)=>((if((v19.length:Int)==1)=true then(ix v19 0).bind fun v24=>(if(v24==1)=true then some (Ex.ret ((v14,v15),(v16,v17)))else some (Ex.cd ()))else some (Ex.cd ()))).bind fun o21=>(match o21 with|Ex.cd ()=>(lk v15 v19).bind fun(v27,v28)=>(lk v17 v19).bind fun(v30,v31)=>(eG v14 v27).bind fun(v33,v34)=>(eG false v30).bind fun(v36,v37)=>some ((v33,v34),(v36,v37))|Ex.ret ((r39,r40),(r41,r42))=>some ((r39,r40),(r41,r42)))
theorem tf{a1:Bool}{a2:List Int}{a3:Bool}{a4:List Int}{r43:Bool}{r44:List Int}{r45:Bool}{r46:List Int}(h:i3 a1 a2 a3 a4=some ((r43,r44),(r45,r46))):bf PP 161 [] [D.agg ([D.bool a1,ai (ak.int .i64) a2]),D.agg ([D.bool a3,ai (ak.int .i64) a4])] [] (D.agg ([D.bool r43,ai (ak.int .i64) r44,D.bool r45,ai (ak.int .i64) r46])):=by
 unfold i3 at h;refine .of Go.Proofs.Tryz.func161 rfl (by kernel_rfl) rfl rfl rfl rfl rfl rfl (fun A w0 L b=>?_);show Ok PP _ [(0,D.agg ([D.bool a1,ai (ak.int .i64) a2])),(1,D.agg ([D.bool a3,ai (ak.int .i64) a4]))] [] _ _;refine .al (.iP rfl rfl<|.iP rfl rfl<|.fN ([D.bool false,D.nil,D.bool false,D.nil]) br ⟨.refl _,.refl _,.refl _,.refl _,trivial⟩ rfl<|.nil) rfl ?_;obtain⟨o5,hp6,h⟩:=bind_some h;refine .cc (fun i=>o5=i) (fun(i:Bool×(List Int)×Bool×(List Int))=>[(2,D.ref 2 0),(3,D.ref 3 0),(4,D.ref 4 0)]) (fun(i:Bool×(List Int)×Bool×(List Int))=>[(2,Hp.box 35 ([D.bool i.1,ai (ak.int .i64) i.2.1])),(3,Hp.box 35 ([D.bool i.2.2.1,ai (ak.int .i64) i.2.2.2])),(4,Hp.box 37 ([D.bool false,D.nil,D.bool false,D.nil]))]) ?_ ?_
 ·have ho1:=h;have h:=hp6;refine .al (.fa rfl bL<|.bu (D.bool a3) rfl rfl bT rfl<|.nil) rfl ?_;by_cases c7:a3=true
  ·replace h:=ab c7 h;refine .cl rfl c7 ?_;obtain⟨⟨v8,v9⟩,e10,h⟩:=bind_some h;obtain⟨⟨v11,v12⟩,e13,h⟩:=bind_some h;refine .c_ cf (.ck ([D.bool a1,ai (ak.int .i64) a2]) rfl rfl ax rfl rfl<|.ag (uC e10) ⟨rfl,trivial⟩ trivial trivial<|.ck ([D.bool a3,ai (ak.int .i64) a4]) rfl rfl ax rfl rfl<|.ag (uC e13) ⟨rfl,trivial⟩ trivial trivial<|.cU ([D.bool v8,ai (ak.int .i64) v9]) rfl rfl rfl ax rfl rfl rfl<|.cU ([D.bool v11,ai (ak.int .i64) v12]) rfl rfl rfl ax rfl rfl rfl<|.nil) rfl (by kernel_rfl) (fun _ _ hs=>⟨(v8,v9,v11,v12),(sj h),hs.sub (.of rfl) (.of rfl) rfl rfl⟩)
  ·replace h:=aa c7 h;refine .cq rfl c7 ?_;refine .skip (fun _ _ hs=>⟨(a1,a2,a3,a4),(sj h),hs.sub (.of rfl) (.of rfl) rfl rfl⟩)
 ·rintro⟨v14,v15,v16,v17⟩ rfl
  try dsimp only
  obtain⟨⟨v18,v19⟩,e20,h⟩:=bind_some h;refine .al (.ck ([D.bool v14,ai (ak.int .i64) v15]) rfl rfl ax rfl rfl<|.ck ([D.bool v16,ai (ak.int .i64) v17]) rfl rfl ax rfl rfl<|.ag (Ey e20) ⟨rfl,rfl,trivial⟩ trivial trivial<|.fN ([D.bool false,D.nil]) cn ⟨.refl _,.refl _,trivial⟩ rfl<|.cU ([D.bool v18,ai (ak.int .i64) v19]) rfl rfl rfl ax rfl rfl rfl<|.nil) rfl ?_;obtain⟨o21,hp22,h⟩:=bind_some h;refine .cc (fun i=>o21=Ex.cd i) (fun(i:Unit)=>[(2,D.ref 2 0),(3,D.ref 3 0),(4,D.ref 4 0),(5,D.ref 5 0)]) (fun(i:Unit)=>[(2,Hp.box 35 ([D.bool v14,ai (ak.int .i64) v15])),(3,Hp.box 35 ([D.bool v16,ai (ak.int .i64) v17])),(4,Hp.box 37 ([D.bool false,D.nil,D.bool false,D.nil])),(5,Hp.box 35 ([D.bool v18,ai (ak.int .i64) v19]))]) ?_ ?_
  ·have ho1:=h;have h:=hp22;by_cases c23:((v19.length:Int)==1)=true
   ·replace h:=ab c23 h;obtain⟨v24,e25,h⟩:=bind_some h;refine .al (.fa rfl aH<|.bu (ai (ak.int .i64) v19) rfl rfl cH rfl<|.ec rfl bK<|.cm rfl rfl rfl<|.mv rfl<|.gy c23<|.fa rfl aH<|.gy c23<|.bu (ai (ak.int .i64) v19) rfl rfl cH rfl<|.gy c23<|.ll rfl rfl dX (af e25).1 (af e25).2<|.gy c23<|.i6 rfl dQ<|.gy c23<|.cm rfl rfl rfl<|.aX rfl c23 rfl<|.nil) rfl ?_;by_cases c26:(v24==1)=true
    ·replace h:=ab c26 h;refine .cl rfl c26 ?_;refine .al (.ck ([D.bool v14,ai (ak.int .i64) v15]) rfl rfl ax rfl rfl<|.ck ([D.bool v16,ai (ak.int .i64) v17]) rfl rfl ax rfl rfl<|.n_ ([D.bool v14,ai (ak.int .i64) v15,D.bool v16,ai (ak.int .i64) v17]) [(0,_,D.agg ([D.bool v14,ai (ak.int .i64) v15]),[D.bool v14,ai (ak.int .i64) v15]),(2,_,D.agg ([D.bool v16,ai (ak.int .i64) v17]),[D.bool v16,ai (ak.int .i64) v17])] br gM ⟨rfl,rfl,.agg _,rfl,rfl,rfl,.agg _,rfl,trivial⟩ ⟨rfl,rfl,trivial⟩ ⟨.refl _,.refl _,.refl _,.refl _,trivial⟩<|.cU ([D.bool v14,ai (ak.int .i64) v15,D.bool v16,ai (ak.int .i64) v17]) rfl rfl rfl aj rfl rfl rfl<|.nil) rfl ?_;cases h;have h:=ho1;cases h;refine .aO (fun _ _ hb=>hb) rfl (.cons (.agg rfl rfl aj rfl) .nil) (.refl _) trivial trivial
    ·replace h:=aa c26 h;refine .cq rfl c26 ?_;refine .skip (fun _ _ hs=>⟨(),(sj h),hs.sub (.of rfl) (.of rfl) rfl rfl⟩)
   ·replace h:=aa c23 h;refine .al (.fa rfl aH<|.bu (ai (ak.int .i64) v19) rfl rfl cH rfl<|.ec rfl bK<|.cm rfl rfl rfl<|.mv rfl<|.gm c23<|.gm c23<|.gm c23<|.gm c23<|.gm c23<|.aT rfl c23 rfl<|.nil) rfl ?_;refine .cq rfl (by decide) ?_;refine .skip (fun _ _ hs=>⟨(),(sj h),hs.sub (.of rfl) (.of rfl) rfl rfl⟩)
  ·rintro⟨⟩ rfl
   try dsimp only
   obtain⟨⟨v27,v28⟩,e29,h⟩:=bind_some h;refine .al (.fa rfl aH<|.bu (ai (ak.int .i64) v15) rfl rfl cH rfl<|.fa rfl aH<|.bu (ai (ak.int .i64) v19) rfl rfl cH rfl<|.ag (tT e29) ⟨rfl,rfl,trivial⟩ trivial trivial<|.mv rfl<|.ext rfl rfl<|.ext rfl rfl<|.aq rfl<|.aq rfl<|.nil) rfl ?_;obtain⟨⟨v30,v31⟩,e32,h⟩:=bind_some h;refine .al (.fa rfl aH<|.bu (ai (ak.int .i64) v17) rfl rfl cH rfl<|.fa rfl aH<|.bu (ai (ak.int .i64) v19) rfl rfl cH rfl<|.ag (tT e32) ⟨rfl,rfl,trivial⟩ trivial trivial<|.mv rfl<|.ext rfl rfl<|.ext rfl rfl<|.aq rfl<|.aq rfl<|.nil) rfl ?_;obtain⟨⟨v33,v34⟩,e35,h⟩:=bind_some h;obtain⟨⟨v36,v37⟩,e38,h⟩:=bind_some h;refine .al (.fa rfl bL<|.bu (D.bool v14) rfl rfl bT rfl<|.mv rfl<|.ag (i9 e35) ⟨rfl,rfl,trivial⟩ trivial trivial<|.mv rfl<|.ag (i9 e38) ⟨rfl,rfl,trivial⟩ trivial trivial<|.n_ ([D.bool v33,ai (ak.int .i64) v34,D.bool v36,ai (ak.int .i64) v37]) [(0,_,D.agg ([D.bool v33,ai (ak.int .i64) v34]),[D.bool v33,ai (ak.int .i64) v34]),(2,_,D.agg ([D.bool v36,ai (ak.int .i64) v37]),[D.bool v36,ai (ak.int .i64) v37])] br gM ⟨rfl,rfl,.agg _,rfl,rfl,rfl,.agg _,rfl,trivial⟩ ⟨rfl,rfl,trivial⟩ ⟨.refl _,.refl _,.refl _,.refl _,trivial⟩<|.cU ([D.bool v33,ai (ak.int .i64) v34,D.bool v36,ai (ak.int .i64) v37]) rfl rfl rfl aj rfl rfl rfl<|.nil) rfl ?_;cases h;refine .aO (fun _ _ hb=>hb) rfl (.cons (.agg rfl rfl aj rfl) .nil) (.refl _) trivial trivial
def s7(a1:Int):Option ((Bool×(List Int))×(Bool×(List Int))):=(fQ a1).bind fun(v2,v3)=>(fQ 1).bind fun(v5,v6)=>some ((v2,v3),(v5,v6))
theorem FT{a1:Int}{r8:Bool}{r9:List Int}{r10:Bool}{r11:List Int}(h:s7 a1=some ((r8,r9),(r10,r11))):bf PP 41 [] [D.int .i64 a1] [] (D.agg ([D.bool r8,ai (ak.int .i64) r9,D.bool r10,ai (ak.int .i64) r11])):=by
 unfold s7 at h;refine .of Go.Proofs.Tryz.func41 rfl (by kernel_rfl) rfl rfl rfl rfl rfl rfl (fun A w0 L b=>?_);show Ok PP _ [(0,D.int .i64 a1)] [] _ _;refine .al (.fN ([D.bool false,D.nil,D.bool false,D.nil]) br ⟨.refl _,.refl _,.refl _,.refl _,trivial⟩ rfl<|.nil) rfl ?_;obtain⟨⟨v2,v3⟩,e4,h⟩:=bind_some h;obtain⟨⟨v5,v6⟩,e7,h⟩:=bind_some h;refine .al (.mv rfl<|.ag (lM e4) ⟨rfl,trivial⟩ trivial trivial<|.ag (lM e7) ⟨rfl,trivial⟩ trivial trivial<|.n_ ([D.bool v2,ai (ak.int .i64) v3,D.bool v5,ai (ak.int .i64) v6]) [(0,_,D.agg ([D.bool v2,ai (ak.int .i64) v3]),[D.bool v2,ai (ak.int .i64) v3]),(2,_,D.agg ([D.bool v5,ai (ak.int .i64) v6]),[D.bool v5,ai (ak.int .i64) v6])] br gM ⟨rfl,rfl,.agg _,rfl,rfl,rfl,.agg _,rfl,trivial⟩ ⟨rfl,rfl,trivial⟩ ⟨.refl _,.refl _,.refl _,.refl _,trivial⟩<|.cU ([D.bool v2,ai (ak.int .i64) v3,D.bool v5,ai (ak.int .i64) v6]) rfl rfl rfl aj rfl rfl rfl<|.nil) rfl ?_;cases h;refine .aO (fun _ _ hb=>hb) rfl (.cons (.agg rfl rfl aj rfl) .nil) (.refl _) trivial trivial
def xy(a1:Int)(a2:Int):Option ((Bool×(List Int))×(Bool×(List Int))):=(fQ a1).bind fun(v3,v4)=>(fQ a2).bind fun(v6,v7)=>(i3 v3 v4 v6 v7).bind fun((v9,v10),(v11,v12))=>some ((v9,v10),(v11,v12))
theorem Iq{a1:Int}{a2:Int}{r14:Bool}{r15:List Int}{r16:Bool}{r17:List Int}(h:xy a1 a2=some ((r14,r15),(r16,r17))):bf PP 37 [] [D.int .i64 a1,D.int .i64 a2] [] (D.agg ([D.bool r14,ai (ak.int .i64) r15,D.bool r16,ai (ak.int .i64) r17])):=by
 unfold xy at h;refine .of Go.Proofs.Tryz.func37 rfl (by kernel_rfl) rfl rfl rfl rfl rfl rfl (fun A w0 L b=>?_);show Ok PP _ [(0,D.int .i64 a1),(1,D.int .i64 a2)] [] _ _;refine .al (.fN ([D.bool false,D.nil,D.bool false,D.nil]) br ⟨.refl _,.refl _,.refl _,.refl _,trivial⟩ rfl<|.nil) rfl ?_;obtain⟨⟨v3,v4⟩,e5,h⟩:=bind_some h;obtain⟨⟨v6,v7⟩,e8,h⟩:=bind_some h;obtain⟨⟨⟨v9,v10⟩,⟨v11,v12⟩⟩,e13,h⟩:=bind_some h;refine .al (.mv rfl<|.ag (lM e5) ⟨rfl,trivial⟩ trivial trivial<|.mv rfl<|.ag (lM e8) ⟨rfl,trivial⟩ trivial trivial<|.ag (tf e13) ⟨rfl,rfl,trivial⟩ trivial trivial<|.cU ([D.bool v9,ai (ak.int .i64) v10,D.bool v11,ai (ak.int .i64) v12]) rfl rfl rfl aj rfl rfl rfl<|.nil) rfl ?_;cases h;refine .aO (fun _ _ hb=>hb) rfl (.cons (.agg rfl rfl aj rfl) .nil) (.refl _) trivial trivial
def pY(a1:Bool)(a2:List Int)(a3:Bool)(a4:List Int)(a5:Bool)(a6:List Int)(a7:Bool)(a8:List Int):Option ((Bool×(List Int))×(Bool×(List Int))):=(dT a5 a6 a7 a8).bind fun(v9,v10)=>(ff a1 a2 v9 v10).bind fun(v12,v13)=>(dT a1 a2 a3 a4).bind fun(v15,v16)=>(ff a5 a6 v15 v16).bind fun(v18,v19)=>(oi v12 v13 v18 v19).bind fun(v21,v22)=>(dT a1 a2 a3 a4).bind fun(v24,v25)=>(dT a5 a6 a7 a8).bind fun(v27,v28)=>(ff v24 v25 v27 v28).bind fun(v30,v31)=>(i3 v21 v22 v30 v31).bind fun((v33,v34),(v35,v36))=>some ((v33,v34),(v35,v36))
theorem Gz{a1:Bool}{a2:List Int}{a3:Bool}{a4:List Int}{a5:Bool}{a6:List Int}{a7:Bool}{a8:List Int}{r38:Bool}{r39:List Int}{r40:Bool}{r41:List Int}(h:pY a1 a2 a3 a4 a5 a6 a7 a8=some ((r38,r39),(r40,r41))):bf PP 43 [] [D.agg ([D.bool a1,ai (ak.int .i64) a2,D.bool a3,ai (ak.int .i64) a4]),D.agg ([D.bool a5,ai (ak.int .i64) a6,D.bool a7,ai (ak.int .i64) a8])] [] (D.agg ([D.bool r38,ai (ak.int .i64) r39,D.bool r40,ai (ak.int .i64) r41])):=by
 unfold pY at h;refine .of Go.Proofs.Tryz.func43 rfl (by kernel_rfl) rfl rfl rfl rfl rfl rfl (fun A w0 L b=>?_);show Ok PP _ [(0,D.agg ([D.bool a1,ai (ak.int .i64) a2,D.bool a3,ai (ak.int .i64) a4])),(1,D.agg ([D.bool a5,ai (ak.int .i64) a6,D.bool a7,ai (ak.int .i64) a8]))] [] _ _;refine .al (.iP rfl rfl<|.iP rfl rfl<|.fN ([D.bool false,D.nil,D.bool false,D.nil]) br ⟨.refl _,.refl _,.refl _,.refl _,trivial⟩ rfl<|.nil) rfl ?_;obtain⟨⟨v9,v10⟩,e11,h⟩:=bind_some h;obtain⟨⟨v12,v13⟩,e14,h⟩:=bind_some h;obtain⟨⟨v15,v16⟩,e17,h⟩:=bind_some h;obtain⟨⟨v18,v19⟩,e20,h⟩:=bind_some h;obtain⟨⟨v21,v22⟩,e23,h⟩:=bind_some h;obtain⟨⟨v24,v25⟩,e26,h⟩:=bind_some h;obtain⟨⟨v27,v28⟩,e29,h⟩:=bind_some h;obtain⟨⟨v30,v31⟩,e32,h⟩:=bind_some h;obtain⟨⟨⟨v33,v34⟩,⟨v35,v36⟩⟩,e37,h⟩:=bind_some h;refine .cZ cf (.fa rfl cL<|.ck ([D.bool a1,ai (ak.int .i64) a2]) rfl rfl ax rfl rfl<|.ck ([D.bool a5,ai (ak.int .i64) a6,D.bool a7,ai (ak.int .i64) a8]) rfl rfl aj rfl rfl<|.ag (fq e11) ⟨rfl,trivial⟩ trivial trivial<|.ag (jn e14) ⟨rfl,rfl,trivial⟩ trivial trivial<|.fa rfl cL<|.ck ([D.bool a5,ai (ak.int .i64) a6]) rfl rfl ax rfl rfl<|.ck ([D.bool a1,ai (ak.int .i64) a2,D.bool a3,ai (ak.int .i64) a4]) rfl rfl aj rfl rfl<|.ag (fq e17) ⟨rfl,trivial⟩ trivial trivial<|.ag (jn e20) ⟨rfl,rfl,trivial⟩ trivial trivial<|.ag (ET e23) ⟨rfl,rfl,trivial⟩ trivial trivial<|.ck ([D.bool a1,ai (ak.int .i64) a2,D.bool a3,ai (ak.int .i64) a4]) rfl rfl aj rfl rfl<|.ag (fq e26) ⟨rfl,trivial⟩ trivial trivial<|.ck ([D.bool a5,ai (ak.int .i64) a6,D.bool a7,ai (ak.int .i64) a8]) rfl rfl aj rfl rfl<|.ag (fq e29) ⟨rfl,trivial⟩ trivial trivial<|.ag (jn e32) ⟨rfl,rfl,trivial⟩ trivial trivial<|.ag (tf e37) ⟨rfl,rfl,trivial⟩ trivial trivial<|.cU ([D.bool v33,ai (ak.int .i64) v34,D.bool v35,ai (ak.int .i64) v36]) rfl rfl rfl aj rfl rfl rfl<|.nil) rfl (by kernel_rfl) ?_;cases h;refine .aO (fun _ _ hb=>hb) rfl (.cons (.agg rfl rfl aj rfl) .nil) (.refl _) trivial trivial
def pX(a1:Bool)(a2:List Int)(a3:Bool)(a4:List Int):Option ((Bool×(List Int))×(Bool×(List Int))):=(lC a1 a2).bind fun(v5,v6)=>(dT a1 a2 a3 a4).bind fun(v8,v9)=>some ((v5,v6),(v8,v9))
theorem A0{a1:Bool}{a2:List Int}{a3:Bool}{a4:List Int}{r11:Bool}{r12:List Int}{r13:Bool}{r14:List Int}(h:pX a1 a2 a3 a4=some ((r11,r12),(r13,r14))):bf PP 49 [] [D.agg ([D.bool a1,ai (ak.int .i64) a2,D.bool a3,ai (ak.int .i64) a4])] [] (D.agg ([D.bool r11,ai (ak.int .i64) r12,D.bool r13,ai (ak.int .i64) r14])):=by
 unfold pX at h;refine .of Go.Proofs.Tryz.func49 rfl (by kernel_rfl) rfl rfl rfl rfl rfl rfl (fun A w0 L b=>?_);show Ok PP _ [(0,D.agg ([D.bool a1,ai (ak.int .i64) a2,D.bool a3,ai (ak.int .i64) a4]))] [] _ _;refine .al (.iP rfl rfl<|.fN ([D.bool false,D.nil,D.bool false,D.nil]) br ⟨.refl _,.refl _,.refl _,.refl _,trivial⟩ rfl<|.nil) rfl ?_;obtain⟨⟨v5,v6⟩,e7,h⟩:=bind_some h;obtain⟨⟨v8,v9⟩,e10,h⟩:=bind_some h;refine .cZ cf (.fa rfl cL<|.ck ([D.bool a1,ai (ak.int .i64) a2]) rfl rfl ax rfl rfl<|.ag (uC e7) ⟨rfl,trivial⟩ trivial trivial<|.ck ([D.bool a1,ai (ak.int .i64) a2,D.bool a3,ai (ak.int .i64) a4]) rfl rfl aj rfl rfl<|.ag (fq e10) ⟨rfl,trivial⟩ trivial trivial<|.n_ ([D.bool v5,ai (ak.int .i64) v6,D.bool v8,ai (ak.int .i64) v9]) [(0,_,D.agg ([D.bool v5,ai (ak.int .i64) v6]),[D.bool v5,ai (ak.int .i64) v6]),(2,_,D.agg ([D.bool v8,ai (ak.int .i64) v9]),[D.bool v8,ai (ak.int .i64) v9])] br gM ⟨rfl,rfl,.agg _,rfl,rfl,rfl,.agg _,rfl,trivial⟩ ⟨rfl,rfl,trivial⟩ ⟨.refl _,.refl _,.refl _,.refl _,trivial⟩<|.cU ([D.bool v5,ai (ak.int .i64) v6,D.bool v8,ai (ak.int .i64) v9]) rfl rfl rfl aj rfl rfl rfl<|.nil) rfl (by kernel_rfl) ?_;cases h;refine .aO (fun _ _ hb=>hb) rfl (.cons (.agg rfl rfl aj rfl) .nil) (.refl _) trivial trivial
def sI(a1:Bool)(a2:List Int)(a3:Bool)(a4:List Int)(a5:Bool)(a6:List Int)(a7:Bool)(a8:List Int):Option ((Bool×(List Int))×(Bool×(List Int))):=(pX a5 a6 a7 a8).bind fun((v9,v10),(v11,v12))=>(pY a1 a2 a3 a4 v9 v10 v11 v12).bind fun((v14,v15),(v16,v17))=>some ((v14,v15),(v16,v17))
theorem F0{a1:Bool}{a2:List Int}{a3:Bool}{a4:List Int}{a5:Bool}{a6:List Int}{a7:Bool}{a8:List Int}{r19:Bool}{r20:List Int}{r21:Bool}{r22:List Int}(h:sI a1 a2 a3 a4 a5 a6 a7 a8=some ((r19,r20),(r21,r22))):bf PP 45 [] [D.agg ([D.bool a1,ai (ak.int .i64) a2,D.bool a3,ai (ak.int .i64) a4]),D.agg ([D.bool a5,ai (ak.int .i64) a6,D.bool a7,ai (ak.int .i64) a8])] [] (D.agg ([D.bool r19,ai (ak.int .i64) r20,D.bool r21,ai (ak.int .i64) r22])):=by
 unfold sI at h;refine .of Go.Proofs.Tryz.func45 rfl (by kernel_rfl) rfl rfl rfl rfl rfl rfl (fun A w0 L b=>?_);show Ok PP _ [(0,D.agg ([D.bool a1,ai (ak.int .i64) a2,D.bool a3,ai (ak.int .i64) a4])),(1,D.agg ([D.bool a5,ai (ak.int .i64) a6,D.bool a7,ai (ak.int .i64) a8]))] [] _ _;refine .al (.iP rfl rfl<|.iP rfl rfl<|.fN ([D.bool false,D.nil,D.bool false,D.nil]) br ⟨.refl _,.refl _,.refl _,.refl _,trivial⟩ rfl<|.nil) rfl ?_;obtain⟨⟨⟨v9,v10⟩,⟨v11,v12⟩⟩,e13,h⟩:=bind_some h;obtain⟨⟨⟨v14,v15⟩,⟨v16,v17⟩⟩,e18,h⟩:=bind_some h;refine .cZ cf (.ck ([D.bool a1,ai (ak.int .i64) a2,D.bool a3,ai (ak.int .i64) a4]) rfl rfl aj rfl rfl<|.ck ([D.bool a5,ai (ak.int .i64) a6,D.bool a7,ai (ak.int .i64) a8]) rfl rfl aj rfl rfl<|.ag (A0 e13) ⟨rfl,trivial⟩ trivial trivial<|.ag (Gz e18) ⟨rfl,rfl,trivial⟩ trivial trivial<|.cU ([D.bool v14,ai (ak.int .i64) v15,D.bool v16,ai (ak.int .i64) v17]) rfl rfl rfl aj rfl rfl rfl<|.nil) rfl (by kernel_rfl) ?_;cases h;refine .aO (fun _ _ hb=>hb) rfl (.cons (.agg rfl rfl aj rfl) .nil) (.refl _) trivial trivial
def sO(a1:Bool)(a2:List Int)(a3:Bool)(a4:List Int)(a5:Bool)(a6:List Int)(a7:Bool)(a8:List Int):Option ((Bool×(List Int))×(Bool×(List Int))):=(ff a1 a2 a5 a6).bind fun(v9,v10)=>(dT a1 a2 a3 a4).bind fun(v12,v13)=>(dT a5 a6 a7 a8).bind fun(v15,v16)=>(ff v12 v13 v15 v16).bind fun(v18,v19)=>(i3 v9 v10 v18 v19).bind fun((v21,v22),(v23,v24))=>some ((v21,v22),(v23,v24))
theorem Gc{a1:Bool}{a2:List Int}{a3:Bool}{a4:List Int}{a5:Bool}{a6:List Int}{a7:Bool}{a8:List Int}{r26:Bool}{r27:List Int}{r28:Bool}{r29:List Int}(h:sO a1 a2 a3 a4 a5 a6 a7 a8=some ((r26,r27),(r28,r29))):bf PP 47 [] [D.agg ([D.bool a1,ai (ak.int .i64) a2,D.bool a3,ai (ak.int .i64) a4]),D.agg ([D.bool a5,ai (ak.int .i64) a6,D.bool a7,ai (ak.int .i64) a8])] [] (D.agg ([D.bool r26,ai (ak.int .i64) r27,D.bool r28,ai (ak.int .i64) r29])):=by
 unfold sO at h;refine .of Go.Proofs.Tryz.func47 rfl (by kernel_rfl) rfl rfl rfl rfl rfl rfl (fun A w0 L b=>?_);show Ok PP _ [(0,D.agg ([D.bool a1,ai (ak.int .i64) a2,D.bool a3,ai (ak.int .i64) a4])),(1,D.agg ([D.bool a5,ai (ak.int .i64) a6,D.bool a7,ai (ak.int .i64) a8]))] [] _ _;refine .al (.iP rfl rfl<|.iP rfl rfl<|.fN ([D.bool false,D.nil,D.bool false,D.nil]) br ⟨.refl _,.refl _,.refl _,.refl _,trivial⟩ rfl<|.nil) rfl ?_;obtain⟨⟨v9,v10⟩,e11,h⟩:=bind_some h;obtain⟨⟨v12,v13⟩,e14,h⟩:=bind_some h;obtain⟨⟨v15,v16⟩,e17,h⟩:=bind_some h;obtain⟨⟨v18,v19⟩,e20,h⟩:=bind_some h;obtain⟨⟨⟨v21,v22⟩,⟨v23,v24⟩⟩,e25,h⟩:=bind_some h;refine .cZ cf (.fa rfl cL<|.ck ([D.bool a1,ai (ak.int .i64) a2]) rfl rfl ax rfl rfl<|.fa rfl cL<|.ck ([D.bool a5,ai (ak.int .i64) a6]) rfl rfl ax rfl rfl<|.ag (jn e11) ⟨rfl,rfl,trivial⟩ trivial trivial<|.ck ([D.bool a1,ai (ak.int .i64) a2,D.bool a3,ai (ak.int .i64) a4]) rfl rfl aj rfl rfl<|.ag (fq e14) ⟨rfl,trivial⟩ trivial trivial<|.ck ([D.bool a5,ai (ak.int .i64) a6,D.bool a7,ai (ak.int .i64) a8]) rfl rfl aj rfl rfl<|.ag (fq e17) ⟨rfl,trivial⟩ trivial trivial<|.ag (jn e20) ⟨rfl,rfl,trivial⟩ trivial trivial<|.ag (tf e25) ⟨rfl,rfl,trivial⟩ trivial trivial<|.cU ([D.bool v21,ai (ak.int .i64) v22,D.bool v23,ai (ak.int .i64) v24]) rfl rfl rfl aj rfl rfl rfl<|.nil) rfl (by kernel_rfl) ?_;cases h;refine .aO (fun _ _ hb=>hb) rfl (.cons (.agg rfl rfl aj rfl) .nil) (.refl _) trivial trivial
def ta(a1:Bool)(a2:List Int)(a3:Bool)(a4:List Int)(a5:Bool)(a6:List Int)(a7:Bool)(a8:List Int):Option ((Bool×(List Int))×(Bool×(List Int))):=(dT a5 a6 a7 a8).bind fun(v9,v10)=>(ff a1 a2 v9 v10).bind fun(v12,v13)=>(dT a1 a2 a3 a4).bind fun(v15,v16)=>(ff v15 v16 a5 a6).bind fun(v18,v19)=>(i3 v12 v13 v18 v19).bind fun((v21,v22),(v23,v24))=>some ((v21,v22),(v23,v24))
theorem F4{a1:Bool}{a2:List Int}{a3:Bool}{a4:List Int}{a5:Bool}{a6:List Int}{a7:Bool}{a8:List Int}{r26:Bool}{r27:List Int}{r28:Bool}{r29:List Int}(h:ta a1 a2 a3 a4 a5 a6 a7 a8=some ((r26,r27),(r28,r29))):bf PP 39 [] [D.agg ([D.bool a1,ai (ak.int .i64) a2,D.bool a3,ai (ak.int .i64) a4]),D.agg ([D.bool a5,ai (ak.int .i64) a6,D.bool a7,ai (ak.int .i64) a8])] [] (D.agg ([D.bool r26,ai (ak.int .i64) r27,D.bool r28,ai (ak.int .i64) r29])):=by
 unfold ta at h;refine .of Go.Proofs.Tryz.func39 rfl (by kernel_rfl) rfl rfl rfl rfl rfl rfl (fun A w0 L b=>?_);show Ok PP _ [(0,D.agg ([D.bool a1,ai (ak.int .i64) a2,D.bool a3,ai (ak.int .i64) a4])),(1,D.agg ([D.bool a5,ai (ak.int .i64) a6,D.bool a7,ai (ak.int .i64) a8]))] [] _ _;refine .al (.iP rfl rfl<|.iP rfl rfl<|.fN ([D.bool false,D.nil,D.bool false,D.nil]) br ⟨.refl _,.refl _,.refl _,.refl _,trivial⟩ rfl<|.nil) rfl ?_;obtain⟨⟨v9,v10⟩,e11,h⟩:=bind_some h;obtain⟨⟨v12,v13⟩,e14,h⟩:=bind_some h;obtain⟨⟨v15,v16⟩,e17,h⟩:=bind_some h;obtain⟨⟨v18,v19⟩,e20,h⟩:=bind_some h;obtain⟨⟨⟨v21,v22⟩,⟨v23,v24⟩⟩,e25,h⟩:=bind_some h;refine .cZ cf (.fa rfl cL<|.ck ([D.bool a1,ai (ak.int .i64) a2]) rfl rfl ax rfl rfl<|.ck ([D.bool a5,ai (ak.int .i64) a6,D.bool a7,ai (ak.int .i64) a8]) rfl rfl aj rfl rfl<|.ag (fq e11) ⟨rfl,trivial⟩ trivial trivial<|.ag (jn e14) ⟨rfl,rfl,trivial⟩ trivial trivial<|.ck ([D.bool a1,ai (ak.int .i64) a2,D.bool a3,ai (ak.int .i64) a4]) rfl rfl aj rfl rfl<|.ag (fq e17) ⟨rfl,trivial⟩ trivial trivial<|.fa rfl cL<|.ck ([D.bool a5,ai (ak.int .i64) a6]) rfl rfl ax rfl rfl<|.ag (jn e20) ⟨rfl,rfl,trivial⟩ trivial trivial<|.ag (tf e25) ⟨rfl,rfl,trivial⟩ trivial trivial<|.cU ([D.bool v21,ai (ak.int .i64) v22,D.bool v23,ai (ak.int .i64) v24]) rfl rfl rfl aj rfl rfl rfl<|.nil) rfl (by kernel_rfl) ?_;cases h;refine .aO (fun _ _ hb=>hb) rfl (.cons (.agg rfl rfl aj rfl) .nil) (.refl _) trivial trivial
def sK(a1:Bool)(a2:List Int)(a3:Bool)(a4:List Int)(a5:Bool)(a6:List Int)(a7:Bool)(a8:List Int):Option Int:=(dT a5 a6 a7 a8).bind fun(v9,v10)=>(ff a1 a2 v9 v10).bind fun(v12,v13)=>(dT a1 a2 a3 a4).bind fun(v15,v16)=>(ff a5 a6 v15 v16).bind fun(v18,v19)=>(lN v12 v13 v18 v19).bind fun v21=>some v21
theorem Ga{a1:Bool}{a2:List Int}{a3:Bool}{a4:List Int}{a5:Bool}{a6:List Int}{a7:Bool}{a8:List Int}{r23:Int}(h:sK a1 a2 a3 a4 a5 a6 a7 a8=some r23):bf PP 52 [] [D.agg ([D.bool a1,ai (ak.int .i64) a2,D.bool a3,ai (ak.int .i64) a4]),D.agg ([D.bool a5,ai (ak.int .i64) a6,D.bool a7,ai (ak.int .i64) a8])] [] (D.int .i64 r23):=by
 unfold sK at h;refine .of Go.Proofs.Tryz.func52 rfl (by kernel_rfl) rfl rfl rfl rfl rfl rfl (fun A w0 L b=>?_);show Ok PP _ [(0,D.agg ([D.bool a1,ai (ak.int .i64) a2,D.bool a3,ai (ak.int .i64) a4])),(1,D.agg ([D.bool a5,ai (ak.int .i64) a6,D.bool a7,ai (ak.int .i64) a8]))] [] _ _;refine .al (.iP rfl rfl<|.iP rfl rfl<|.aq rfl<|.nil) rfl ?_;obtain⟨⟨v9,v10⟩,e11,h⟩:=bind_some h;obtain⟨⟨v12,v13⟩,e14,h⟩:=bind_some h;obtain⟨⟨v15,v16⟩,e17,h⟩:=bind_some h;obtain⟨⟨v18,v19⟩,e20,h⟩:=bind_some h;obtain⟨v21,e22,h⟩:=bind_some h;refine .cZ cf (.fa rfl cL<|.ck ([D.bool a1,ai (ak.int .i64) a2]) rfl rfl ax rfl rfl<|.ck ([D.bool a5,ai (ak.int .i64) a6,D.bool a7,ai (ak.int .i64) a8]) rfl rfl aj rfl rfl<|.ag (fq e11) ⟨rfl,trivial⟩ trivial trivial<|.ag (jn e14) ⟨rfl,rfl,trivial⟩ trivial trivial<|.fa rfl cL<|.ck ([D.bool a5,ai (ak.int .i64) a6]) rfl rfl ax rfl rfl<|.ck ([D.bool a1,ai (ak.int .i64) a2,D.bool a3,ai (ak.int .i64) a4]) rfl rfl aj rfl rfl<|.ag (fq e17) ⟨rfl,trivial⟩ trivial trivial<|.ag (jn e20) ⟨rfl,rfl,trivial⟩ trivial trivial<|.ag (x9 e22) ⟨rfl,rfl,trivial⟩ trivial trivial<|.aq rfl<|.nil) rfl (by kernel_rfl) ?_;cases h;refine .aO (fun _ _ hb=>hb) rfl (.t1 (.tmp rfl)) (.refl _) trivial trivial
def qW(a1:Bool)(a2:List Int)(a3:Bool)(a4:List Int):Option Int:=(lN a1 a2 false ([])).bind fun v5=>some v5
theorem CR{a1:Bool}{a2:List Int}{a3:Bool}{a4:List Int}{r7:Int}(h:qW a1 a2 a3 a4=some r7):bf PP 31 [] [D.agg ([D.bool a1,ai (ak.int .i64) a2,D.bool a3,ai (ak.int .i64) a4])] [] (D.int .i64 r7):=by
 unfold qW at h;refine .of Go.Proofs.Tryz.func31 rfl (by kernel_rfl) rfl rfl rfl rfl rfl rfl (fun A w0 L b=>?_);show Ok PP _ [(0,D.agg ([D.bool a1,ai (ak.int .i64) a2,D.bool a3,ai (ak.int .i64) a4]))] [] _ _;refine .al (.iP rfl rfl<|.aq rfl<|.nil) rfl ?_;obtain⟨v5,e6,h⟩:=bind_some h;refine .al (.fa rfl cL<|.ck ([D.bool a1,ai (ak.int .i64) a2]) rfl rfl ax rfl rfl<|.n_ ([D.bool false,D.nil]) [] cn fu trivial trivial ⟨.refl _,.refl _,trivial⟩<|.IJ [D.agg ([D.bool a1,ai (ak.int .i64) a2]),D.agg ([D.bool false,D.nil])] (x9 e6) ⟨rfl,rfl,trivial⟩ ⟨.refl _,.agg ⟨.refl _,.jF _,trivial⟩,trivial⟩ trivial trivial<|.aq rfl<|.nil) rfl ?_;cases h;refine .aO (fun _ _ hb=>hb) rfl (.t1 (.tmp rfl)) (.refl _) trivial trivial
def qP(a1:Bool)(a2:List Int)(a3:Bool)(a4:List Int):Option (List UInt8):=(kZ a1 a2).bind fun v5=>(dT a1 a2 a3 a4).bind fun(v7,v8)=>(kZ v7 v8).bind fun v10=>(if(v10==([49]:List UInt8))=true then some v5 else cj (v5.length+([47]:List UInt8).length<=9223372036854775807) (cj ((v5++([47]:List UInt8)).length+v10.length<=9223372036854775807) (some ((v5++([47]:List UInt8))++v10))))
theorem De{a1:Bool}{a2:List Int}{a3:Bool}{a4:List Int}{r15:List UInt8}(h:qP a1 a2 a3 a4=some r15):bf PP 162 [] [D.agg ([D.bool a1,ai (ak.int .i64) a2,D.bool a3,ai (ak.int .i64) a4])] [] (cu r15):=by
 unfold qP at h;refine .of Go.Proofs.Tryz.func162 rfl (by kernel_rfl) rfl rfl rfl rfl rfl rfl (fun A w0 L b=>?_);show Ok PP _ [(0,D.agg ([D.bool a1,ai (ak.int .i64) a2,D.bool a3,ai (ak.int .i64) a4]))] [] _ _;refine .al (.iP rfl rfl<|.aq rfl<|.nil) rfl ?_;obtain⟨v5,e6,h⟩:=bind_some h;refine .al (.fa rfl cL<|.ck ([D.bool a1,ai (ak.int .i64) a2]) rfl rfl ax rfl rfl<|.ag (vH e6) ⟨rfl,trivial⟩ trivial trivial<|.aq rfl<|.nil) rfl ?_;obtain⟨⟨v7,v8⟩,e9,h⟩:=bind_some h;obtain⟨v10,e11,h⟩:=bind_some h;refine .al (.ck ([D.bool a1,ai (ak.int .i64) a2,D.bool a3,ai (ak.int .i64) a4]) rfl rfl aj rfl rfl<|.ag (fq e9) ⟨rfl,trivial⟩ trivial trivial<|.ag (vH e11) ⟨rfl,trivial⟩ trivial trivial<|.aq rfl<|.nil) rfl ?_;refine .sq ?_;refine .al (.mv rfl<|.Iz rfl rfl<|.nil) rfl ?_;by_cases c12:(v10==([49]:List UInt8))=true
 ·replace h:=ab c12 h;refine .cl rfl c12 ?_;refine .al (.mv rfl<|.aq rfl<|.nil) rfl ?_;cases h;refine .aO (fun _ _ hb=>hb) rfl (.t1 (.tmp rfl)) (.refl _) trivial trivial
 ·replace h:=aa c12 h;refine .cq rfl c12 ?_;refine .skip (Ok.on ?_);obtain⟨k13,h⟩:=av h;obtain⟨k14,h⟩:=av h;refine .al (.mv rfl<|.yB rfl rfl k13<|.mv rfl<|.yB rfl rfl k14<|.aq rfl<|.nil) rfl ?_;cases h;refine .aO (fun _ _ hb=>hb) rfl (.t1 (.tmp rfl)) (.refl _) trivial trivial
end
end Go.Am
namespace Go.Am
open Go.RowKit
abbrev mG(d:Nat)(l:List Int):Prop:=l=aD d\/(d=1/\l=[])
abbrev G7(x:Rat)(l:List Int):D:=.agg [.bool (decide (x.num<0)),ai (ak.int .i64) (aD x.num.natAbs),.bool false,ai (ak.int .i64) l]
theorem wD{x:Rat}{ε:Env}{w:World}{S:cV}{v:Value}(h:(pZ x).p ε w S v):∃l,mG x.den l/\(G7 x l).p ε w S v:=by
 obtain⟨cs,e,h1,ha⟩:=h;rcases cs with _|⟨c1,_|⟨c2,_|⟨c3,_|⟨c4,cs⟩⟩⟩⟩
 ·exact ha.elim
 ·exact ha.2.elim
 ·exact ha.2.2.elim
 ·exact ha.2.2.2.elim
 ·obtain⟨a1,a2,a3,⟨l,hl,hp⟩,a5⟩:=ha;exact⟨l,hl,_,e,h1,a1,a2,a3,hp,a5⟩
theorem bf.any{P:Program}{f:FuncId}{ds:List D}{d:D}{ι:Type}(dsi:ι->List D)(Q:ι->Prop)(i0:ι)(h0:Q i0)(h:∀i,Q i->bf P f [] (dsi i) [] d)(hn:bV ds=bV (dsi i0))
  (hc:∀ε w S vs,cp ε w S ds vs->∃i,Q i/\cp ε w S (dsi i) vs):bf P f [] ds [] d where
 ok:=(h i0 h0).ok
 HK:=by rw[hn];exact(h i0 h0).HK
 IE:=(h i0 h0).IE
 HD:=(h i0 h0).HD
 F_:=(h i0 h0).F_
 uq:=(h i0 h0).uq
 calls:=by
  intro A w ε φ vs h1 h2 h3 hv;obtain⟨i,hq,hv'⟩:=hc _ _ _ _ hv;exact(h i hq).calls A w ε φ vs h1 h2 h3 hv'
theorem bf.Kc{P:Program}{f:FuncId}{a:Rat}{ds:List D}{d:D}(h:∀l,mG a.den l->bf P f [] (G7 a l::ds) [] d):bf P f [] (pZ a::ds) [] d:=by
 refine .any (fun l=>G7 a l::ds) (mG a.den) (aD a.den) (.inl rfl) h rfl ?_;intro ε w S vs hv
 cases vs with
 |nil=>exact hv.elim
 |cons v vs=>
  obtain⟨l,hl,hp⟩:=wD hv.1;exact⟨l,hl,hp,hv.2⟩
theorem bf.Jq{P:Program}{f:FuncId}{a b:Rat}{ds:List D}{d:D}(h:∀l m,mG a.den l->mG b.den m->bf P f [] (G7 a l::G7 b m::ds) [] d):bf P f [] (pZ a::pZ b::ds) [] d:=by
 refine .any (fun(x:List Int×List Int)=>G7 a x.1::G7 b x.2::ds) (fun x=>mG a.den x.1/\mG b.den x.2) (aD a.den,aD b.den) ⟨.inl rfl,.inl rfl⟩ (fun x hx=>h _ _ hx.1 hx.2) rfl ?_;intro ε w S vs hv
 cases vs with
 |nil=>exact hv.elim
 |cons v vs=>
  cases vs with
  |nil=>exact hv.2.elim
  |cons v' vs=>
   obtain⟨l,hl,hp⟩:=wD hv.1;obtain⟨m,hm,hp'⟩:=wD hv.2.1;exact⟨(l,m),⟨hl,hm⟩,hp,hp',hv.2.2⟩
theorem bf.BD{P:Program}{f:FuncId}{ds:List D}{d d':D}(h:bf P f [] ds [] d)(hd:Le d d'):bf P f [] ds [] d':=(h.plain.out hd).gen
theorem GD{d:Nat}:Le (ai (ak.int .i64) (aD d)) (Iw d):=⟨fun _ _ _ _ h=>⟨_,.inl rfl,h⟩,fun r hr=>by cases hr⟩
theorem mE(x:Rat):Le (G7 x (aD x.den)) (pZ x):=.agg ⟨.refl _,.refl _,.refl _,GD,trivial⟩
abbrev zz(z:Int):Bool×List Int:=(decide (z<0),aD z.natAbs)
abbrev rr(x:Rat):(Bool×List Int)×(Bool×List Int):=(zz x.num,(false,aD x.den))
theorem D_(d:Nat)(h:d≠0):((aD d).length:Int)≠0:=by
 have:(aD d).length≠0:=fun k=>h (rH.1 k);omega
theorem GO:fQ 1=some (false,aD 1):=oZ 1 (by unfold fm;omega)
theorem fC(a:Rat)(neg:Bool)(n:List Int){l:List Int}(h:mG a.den l):dT neg n false l=some (false,aD a.den):=by
 unfold dT;rcases h with rfl|⟨h1,rfl⟩
 ·rw[if_neg (by rw[beq_iff_eq];exact D_ _ a.den_nz)]
 ·rw[if_pos (by decide),GO,h1];rfl
theorem ux{x:Nat}(h0:x≠0)(h:x<10000):aD x=[(x:Int)]:=by
 rw[jN h0,Nat.mod_eq_of_lt h,Nat.div_eq_of_lt h,dB]
theorem Dk(g:Nat)(h0:g≠0):(if(((aD g).length:Int)==1)=true then(ix (aD g) 0).bind fun v24=>(if(v24==1)=true then some true else some false)else some false)=some (decide (g=1)):=by
 by_cases h1:g=1
 ·subst h1;rw[ux (by decide) (by decide)];rfl
 ·by_cases hl:(((aD g).length:Int)==1)=true
  ·rw[if_pos hl];have hl2:(aD g).length=1:=by rw[beq_iff_eq]at hl;omega
   have hlt:=kP g;rw[hl2]at hlt;have e:aD g=[(g:Int)]:=ux h0 (by omega);rw[e];have:ix [(g:Int)] 0=some (g:Int):=rfl;rw[this,Option.bind_some,if_neg (by rw[beq_iff_eq];omega),decide_eq_false h1]
  ·rw[if_neg hl,decide_eq_false h1]
theorem FK{α:Type}(g:Nat)(h0:g≠0)(x y:α):(if(((aD g).length:Int)==1)=true then(ix (aD g) 0).bind fun v24=>(if(v24==1)=true then some x else some y)else some y)=some (if g=1 then x else y):=by
 have h:=Dk g h0;by_cases hl:(((aD g).length:Int)==1)=true
 ·rw[if_pos hl]at h|-;obtain⟨v,e,h⟩:=bind_some h;rw[e,Option.bind_some];by_cases hv:(v==1)=true
  ·rw[if_pos hv]at h|-;injection h with h;rw[if_pos (of_decide_eq_true h.symm)]
  ·rw[if_neg hv]at h|-;injection h with h;rw[if_neg (of_decide_eq_false h.symm)]
 ·rw[if_neg hl]at h|-;injection h with h;rw[if_neg (of_decide_eq_false h.symm)]
theorem ti(z:Int)(d:Nat)(hd:d≠0)(hz:sm z.natAbs)(hs:sm d):i3 (decide (z<0)) (aD z.natAbs) false (aD d)=some (rr (mkRat z d)):=by
 obtain⟨e1,e2⟩:=uz z d hd;have hg0:Nat.gcd z.natAbs d≠0:=fun h=>hd (Nat.eq_zero_of_gcd_eq_zero_right h);have hgd:Nat.gcd z.natAbs d∣d:=Nat.gcd_dvd_right _ _;have hgs:sm (Nat.gcd z.natAbs d):=nu (Nat.le_of_dvd (Nat.pos_of_ne_zero hd) hgd) hs;have hsg:=El z _ (Nat.gcd_dvd_left z.natAbs d);unfold i3;rw[if_neg (by decide),Option.bind_some];dsimp only;rw[E9 _ _ _ _ hz hs,Option.bind_some];dsimp only;rw[FK _ hg0,Option.bind_some];unfold rr zz;rw[e1,e2];generalize Nat.gcd z.natAbs d=g at*;by_cases h1:g=1
 ·rw[if_pos h1];dsimp only;subst h1;rw[Int.natCast_one,Int.ediv_one,Nat.div_one]
 ·rw[if_neg h1];dsimp only;rw[wK _ _ hg0 hz hgs,Option.bind_some,wK _ _ hg0 hs hgs];simp only[Option.bind_some];rw[mW,hsg];simp only[Option.bind_some];rw[mW,oj];have:decide (sg false (d/g)<0)=false:=by unfold sg;rw[if_neg (by decide)];exact mg _
  rw[this];rfl
theorem D9(z w:Int)(hw:w≠0)(hz:sm z.natAbs)(hs:sm w.natAbs):i3 (decide (z<0)) (aD z.natAbs) (decide (w<0)) (aD w.natAbs)=some (rr (Rat.divInt z w)):=by
 by_cases h:w<0
 ·have e:i3 (decide (z<0)) (aD z.natAbs) (decide (w<0)) (aD w.natAbs)=i3 (decide (-z<0)) (aD (-z).natAbs) (decide (-w<0)) (aD (-w).natAbs):=by
   unfold i3;rw[if_pos (decide_eq_true h),if_neg (by simp;omega),xn,xn]
   rfl
  obtain⟨d,hd⟩:∃d:Nat,-w=(d:Int):=⟨(-w).toNat,by omega⟩;have h1:=ti (-z) d (by omega) (by rw[Int.natAbs_neg];exact hz) (by rw[←Int.natAbs_neg,hd,Int.natAbs_natCast]at hs;exact hs);rw[e,hd,mg,Int.natAbs_natCast,h1,←Rat.divInt_ofNat,←hd,Rat.neg_divInt_neg]
 ·obtain⟨d,rfl⟩:=Int.eq_ofNat_of_zero_le (show 0<=w by omega);rw[mg,Int.natAbs_natCast,ti z d (by omega) hz hs,←Rat.divInt_ofNat]
theorem Dx(n:Int)(h:fm n):s7 n=some (rr (n:Rat)):=by
 unfold s7 rr;rw[oZ n h,Option.bind_some];dsimp only;rw[GO,Rat.num_intCast,Rat.den_intCast];rfl
theorem Fo(n d:Int)(h:fm n)(k:fm d)(h0:d≠0):xy n d=some (rr ((n:Rat)/(d:Rat))):=by
 unfold xy;rw[oZ n h,Option.bind_some];dsimp only;rw[oZ d k,Option.bind_some];dsimp only;rw[D9 n d h0 (wO h) (wO k),Rat.divInt_eq_div];rfl
theorem qQ(a b:Rat)(z:Int)(hz:sm z.natAbs)(hd:sm b.den):ff (decide (z<0)) (aD z.natAbs) false (aD b.den)=some (zz (z*b.den)):=by
 have:=sN z (b.den:Int) hz (by rw[Int.natAbs_natCast];exact hd);rw[mg,Int.natAbs_natCast]at this;exact this
theorem AQ(a b:Rat)(ha:sm a.den)(hb:sm b.den):ff false (aD a.den) false (aD b.den)=some (false,aD (a.den*b.den)):=by
 have:=sN (a.den:Int) (b.den:Int) (by rw[Int.natAbs_natCast];exact ha) (by rw[Int.natAbs_natCast];exact hb);rw[mg,mg,Int.natAbs_natCast,Int.natAbs_natCast,←Int.natCast_mul,mg,Int.natAbs_natCast]at this;exact this
section
variable {l m:List Int}
theorem CZ(a b:Rat)(h:qw a)(k:qw b)(hl:mG a.den l)(hm:mG b.den m):pY (decide (a.num<0)) (aD a.num.natAbs) false l (decide (b.num<0)) (aD b.num.natAbs) false m=some (rr (a+b)):=by
 unfold pY;rw[fC a _ _ hl,fC b _ _ hm];simp only[Option.bind_some];rw[qQ a b _ (fT h) (eJ k)];simp only[Option.bind_some];rw[qQ b a _ (fT k) (eJ h)];simp only[Option.bind_some];rw[Fs _ _ (fZ (mC h k) (by omega)) (fZ (mC k h) (by omega))];simp only[Option.bind_some];rw[AQ a b (eJ h) (eJ k)];simp only[Option.bind_some];rw[ti _ _ (Nat.mul_ne_zero a.den_nz b.den_nz) (fZ (kD (mC h k) (mC k h)) (by omega)) (fZ (A2 h k) (by omega)),←Rat.add_def']
 rfl
theorem xP(a:Rat)(hl:mG a.den l):pX (decide (a.num<0)) (aD a.num.natAbs) false l=some (rr (-a)):=by
 unfold pX rr;rw[xn,fC a _ _ hl,Rat.neg_num,Rat.neg_den];rfl
theorem C4(a b:Rat)(h:qw a)(k:qw b)(hl:mG a.den l)(hm:mG b.den m):sI (decide (a.num<0)) (aD a.num.natAbs) false l (decide (b.num<0)) (aD b.num.natAbs) false m=some (rr (a-b)):=by
 unfold sI;rw[xP b hm];simp only[Option.bind_some,rr,zz];rw[CZ a (-b) h (by rw[Dn];exact k) hl (.inl rfl),←Rat.sub_eq_add_neg];rfl
theorem D1(a b:Rat)(h:qw a)(k:qw b)(hl:mG a.den l)(hm:mG b.den m):sO (decide (a.num<0)) (aD a.num.natAbs) false l (decide (b.num<0)) (aD b.num.natAbs) false m=some (rr (a*b)):=by
 unfold sO;rw[sN _ _ (fT h) (fT k),fC a _ _ hl,fC b _ _ hm];simp only[Option.bind_some];rw[AQ a b (eJ h) (eJ k)];simp only[Option.bind_some];rw[ti _ _ (Nat.mul_ne_zero a.den_nz b.den_nz) (fZ (G4 h k) (by omega)) (fZ (A2 h k) (by omega)),←Rat.mul_def']
 rfl
theorem zm(a b:Rat):a/b=Rat.divInt (a.num*b.den) (a.den*b.num):=by
 have ea:=Rat.num_divInt_den a;rw[Rat.div_def,Rat.inv_def]
 conv=>lhs;rw[←ea]
 rw[Rat.divInt_mul_divInt]
theorem E0(a b:Rat)(hb:b≠0)(h:qw a)(k:qw b)(hl:mG a.den l)(hm:mG b.den m):ta (decide (a.num<0)) (aD a.num.natAbs) false l (decide (b.num<0)) (aD b.num.natAbs) false m=some (rr (a/b)):=by
 have hn:b.num≠0:=fun h=>hb (Rat.num_eq_zero.1 h);unfold ta;rw[fC a _ _ hl,fC b _ _ hm];simp only[Option.bind_some];rw[qQ a b _ (fT h) (eJ k)];simp only[Option.bind_some];have e:=sN (a.den:Int) b.num (by rw[Int.natAbs_natCast];exact eJ h) (fT k);rw[mg,Int.natAbs_natCast]at e;rw[e];simp only[Option.bind_some];have hb2:bN ((a.den:Int)*b.num).natAbs<=4000000000000:=by
  rw[Int.natAbs_mul,Int.natAbs_natCast];exact Nat.le_trans (dh (pA h) (pD k)) (by omega)
 rw[D9 _ _ (Int.mul_ne_zero (by have:=a.den_nz;omega) hn) (fZ (mC h k) (by omega)) (fZ hb2 (by omega)),←zm]
 rfl
theorem CS(a b:Rat)(h:qw a)(k:qw b)(hl:mG a.den l)(hm:mG b.den m):sK (decide (a.num<0)) (aD a.num.natAbs) false l (decide (b.num<0)) (aD b.num.natAbs) false m=some (iL a b):=by
 unfold sK;rw[fC a _ _ hl,fC b _ _ hm];simp only[Option.bind_some];rw[qQ a b _ (fT h) (eJ k)];simp only[Option.bind_some];rw[qQ b a _ (fT k) (eJ h)];simp only[Option.bind_some];rw[Gb _ _ (fZ (mC h k) (by omega)) (fZ (mC k h) (by omega)),AB];rfl
end
end Go.Am
namespace Go.Am
open Go.RowKit
section
variable {l m:List Int}
theorem Gu{d:Nat}(h:(dR d).length=1):d<10/\d≠0:=by
 have h0:d≠0:=by intro e;subst e;rw[j7]at h;simp at h
 rw[nU h0,List.length_cons]at h;have h1:(dR (d/10)).length=0:=by omega
 refine⟨?_,h0⟩;apply Nat.lt_of_not_le;intro hc;have:d/10≠0:=by omega
 rw[nU this]at h1;simp at h1
theorem DS{d:Nat}(h:d≠0):(iN d==([49]:List UInt8))=decide (d=1):=by
 by_cases h1:d=1
 ·subst h1;have:iN 1=[49]:=by unfold iN;rw[if_neg (by decide),nU (by decide),show(1:Nat)/10=0 from rfl,j7];rfl
  rw[this];rfl
 ·rw[decide_eq_false h1,beq_eq_false_iff_ne];intro he;have hl:(dR d).length=1:=by
   have:=congrArg List.length he;unfold iN bytesOf at this;rw[if_neg h,List.length_map,List.length_reverse]at this;exact this
  obtain⟨h2,_⟩:=Gu hl;unfold iN at he;rw[if_neg h,nU h,Nat.div_eq_of_lt h2,j7]at he;simp only[List.reverse_cons,List.reverse_nil,List.nil_append,bytesOf,List.map_cons,List.map_nil,Int.toNat_natCast]at he;injection he with he _;have h3:=congrArg UInt8.toNat he;rw[UInt8.toNat_ofNat',show(49:UInt8).toNat=49 from rfl]at h3;omega
theorem BZ(a:Rat)(h:di a)(hl:mG a.den l):qP (decide (a.num<0)) (aD a.num.natAbs) false l=some (ID a):=by
 have h1:(iN a.num.natAbs).length<=400000000001:=nR (iK.1 h).1;have h2:(iN a.den).length<=400000000001:=nR (iK.1 h).2;unfold qP ID;rw[yJ _ _ (fT (jS h)) (fun h0=>decide_eq_false (by omega)),Option.bind_some,fC a _ _ hl,Option.bind_some];dsimp only;rw[yJ _ _ (eJ (jS h)) (fun h0=>rfl),Option.bind_some];have e0:(if(false:Bool)=true then([45]:List UInt8)else [])++iN a.den=iN a.den:=by simp
 rw[e0,DS a.den_nz];have e1:(if decide (a.num<0)=true then([45]:List UInt8)else [])=(if a.num<0 then [45]else []):=by simp
 rw[e1];have h3:((if a.num<0 then [45]else [])++iN a.num.natAbs:List UInt8).length<=400000000002:=by
  rw[List.length_append];split<;>simp only[List.length_cons,List.length_nil]<;>omega
 generalize ((if a.num<0 then [45]else [])++iN a.num.natAbs:List UInt8)=t at*;by_cases hd:a.den=1
 ·rw[if_pos (decide_eq_true hd),if_pos hd,List.append_nil]
 ·rw[if_neg (by simpa using hd),if_neg hd];refine cC (by simp only[List.length_cons,List.length_nil];omega) (cC (by simp only[List.length_append,List.length_cons,List.length_nil];omega) ?_);rw[List.append_assoc];rfl
theorem z8(a:Rat)(l:List Int):qW (decide (a.num<0)) (aD a.num.natAbs) false l=some (wJ a):=by
 unfold qW lN;rw[←Bk];by_cases h:a.num<0
 ·rw[decide_eq_true h,if_pos (by decide),if_pos rfl,if_pos h];rfl
 ·rw[decide_eq_false h,if_neg (by decide),if_neg (by decide),if_neg h];by_cases h0:a.num=0
  ·rw[h0,if_pos rfl];have:=uA 0 0 (jC (by decide)) (jC (by decide));rw[dB]at this;rw[show Int.natAbs 0=0 from rfl,dB,this];rfl
  ·rw[if_neg h0];have:=D_ a.num.natAbs (by omega);have hn:(((aD a.num.natAbs).length:Int) !=((([]:List Int).length:Nat):Int))=true:=by
    rw[bne_iff_ne];exact this
   unfold kU;rw[if_pos hn,if_neg (by simp)];rfl
end
end Go.Am
namespace Go.Am
open Go.RowKit
section
variable {l m:List Int}
end
end Go.Am
namespace Go.Am
open Go.RowKit
def jr(x:Rat):Rat:=if x<0 then-x else x
def closer(a c b:Rat):Bool:=decide (iL (jr (c-a)) (jr (b-a))<0)||(iL (jr (c-a)) (jr (b-a))==0&&(decide (fI c.den b.den<0)||(fI c.den b.den==0&&decide (iL c b<0))))
def l6(a:Rat)(n j:Nat)(b:Rat):Rat:=if closer a (mkRat ((a*(n:Int)).floor+(j:Int)) n) b then mkRat ((a*(n:Int)).floor+(j:Int)) n else b
def nA(a:Rat):Nat->Rat
 |0=>(a.floor:Rat)
 |n+1=>l6 a (n+1) 1 (l6 a (n+1) 0 (nA a n))
theorem He(z:Int)(d n:Nat)(hd:d≠0)(h1:bN z.natAbs<=n)(h2:bN d<=n):sz (mkRat z d)<=n:=
 iK.2 ⟨Nat.le_trans (dI (oP _ _)) h1,Nat.le_trans (dI (j2 _ _ hd)) h2⟩
theorem As(a:Rat):sz (jr a)=sz a:=by unfold jr;exact Hv a
section
open D
theorem DY{a1:Int}{r2:Rat}(h:fY a1=some r2):bf PP 41 [] [D.int .i64 a1] [] (pZ r2):=by
 obtain⟨h0,h⟩:=av h;injection h with h;subst h;exact(FT (Dx a1 h0)).BD (mE _)
def Fj(n d:Int):Option Rat:=cj (fm n/\fm d/\d≠0) (some ((n:Rat)/(d:Rat)))
theorem JP{a1:Int}{a2:Int}{r3:Rat}(h:Fj a1 a2=some r3):bf PP 37 [] [D.int .i64 a1,D.int .i64 a2] [] (pZ r3):=by
 obtain⟨h0,h⟩:=av h;injection h with h;subst h;exact(Iq (Fo a1 a2 h0.1 h0.2.1 h0.2.2)).BD (mE _)
theorem G8{a1:Rat}{a2:Rat}{r3:Rat}(h:ks a1 a2=some r3):bf PP 45 [] [pZ a1,pZ a2] [] (pZ r3):=by
 obtain⟨h0,h⟩:=av h;injection h with h;subst h;exact .Jq fun l m hl hm=>(F0 (C4 a1 a2 (jS h0.1) (jS h0.2) hl hm)).BD (mE _)
theorem yd{a1:Rat}{a2:Rat}{r3:Rat}(h:fh a1 a2=some r3):bf PP 47 [] [pZ a1,pZ a2] [] (pZ r3):=by
 obtain⟨h0,h⟩:=av h;injection h with h;subst h;exact .Jq fun l m hl hm=>(Gc (D1 a1 a2 (jS h0.1) (jS h0.2) hl hm)).BD (mE _)
theorem DV{a1:Rat}{a2:Rat}{r3:Rat}(h:fV a1 a2=some r3):bf PP 39 [] [pZ a1,pZ a2] [] (pZ r3):=by
 obtain⟨h0,h⟩:=av h;injection h with h;subst h;exact .Jq fun l m hl hm=>(F4 (E0 a1 a2 h0.1 (jS h0.2.1) (jS h0.2.2) hl hm)).BD (mE _)
theorem IK{a1:Rat}{r2:Rat}(h:pg a1=some r2):bf PP 49 [] [pZ a1] [] (pZ r2):=by
 injection h with h;subst h;exact .Kc fun l hl=>(A0 (xP a1 hl)).BD (mE _)
theorem Jg{a1:Rat}{a2:Rat}{r3:Int}(h:lJ a1 a2=some r3):bf PP 52 [] [pZ a1,pZ a2] [] (D.int .i64 r3):=by
 obtain⟨h0,h⟩:=av h;injection h with h;subst h;exact .Jq fun l m hl hm=>Ga (CS a1 a2 (jS h0.1) (jS h0.2) hl hm)
theorem wY{a1:Rat}{r2:Int}(h:cW a1=some r2):bf PP 31 [] [pZ a1] [] (D.int .i64 r2):=by
 injection h with h;subst h;exact .Kc fun l hl=>CR (z8 a1 l)
theorem HW{a1:Rat}{r2:List UInt8}(h:rv a1=some r2):bf PP 162 [] [pZ a1] [] (cu r2):=by
 obtain⟨h0,h⟩:=av h;injection h with h;subst h;exact .Kc fun l hl=>De (BZ a1 h0 hl)
end
end Go.Am
namespace Go.Am
open Go.RowKit
set_option maxRecDepth 100000
noncomputable section
end
end Go.Am
namespace Go.Am
open Go.RowKit
section
variable {l m:List Int}
end
end Go.Am
namespace Go.Proofs
open Go.Shelf
def Tryz.xV:Go.Shelf.Ren:=⟨fun|160=>213|232=>241|231=>240|227=>242|234=>244|233=>243|236=>246|235=>245|228=>258|271=>261|151=>260|197=>259|120=>266|152=>265|260=>264|137=>267|119=>268|224=>256|225=>255|217=>254|266=>262|n=>n,fun|9=>9|4=>4|3=>3|5=>5|117=>271|116=>270|0=>0|124=>274|21=>21|105=>283|46=>246|119=>288|139=>291|138=>290|n=>n,fun|3=>1|4=>2|n=>n⟩
theorem Tryz.Fk:Go.Proofs.Lays.n160 Tryz.prog Tryz.xV:={
 mixed:=by kernel_rfl
 f119:=Tryz.func268.trans (congrArg some (by kernel_rfl))
 f120:=Tryz.func266.trans (congrArg some (by kernel_rfl))
 f137:=Tryz.func267.trans (congrArg some (by kernel_rfl))
 f151:=Tryz.func260.trans (congrArg some (by kernel_rfl))
 f152:=Tryz.func265.trans (congrArg some (by kernel_rfl))
 f160:=Tryz.func213.trans (congrArg some (by kernel_rfl))
 f197:=Tryz.func259.trans (congrArg some (by kernel_rfl))
 f217:=Tryz.func254.trans (congrArg some (by kernel_rfl))
 f224:=Tryz.func256.trans (congrArg some (by kernel_rfl))
 f225:=Tryz.func255.trans (congrArg some (by kernel_rfl))
 f227:=Tryz.func242.trans (congrArg some (by kernel_rfl))
 f228:=Tryz.func258.trans (congrArg some (by kernel_rfl))
 f231:=Tryz.func240.trans (congrArg some (by kernel_rfl))
 f232:=Tryz.func241.trans (congrArg some (by kernel_rfl))
 f233:=Tryz.func243.trans (congrArg some (by kernel_rfl))
 f234:=Tryz.func244.trans (congrArg some (by kernel_rfl))
 f235:=Tryz.func245.trans (congrArg some (by kernel_rfl))
 f236:=Tryz.func246.trans (congrArg some (by kernel_rfl))
 f260:=Tryz.func264.trans (congrArg some (by kernel_rfl))
 f266:=Tryz.func262.trans (congrArg some (by kernel_rfl))
 f271:=Tryz.func261.trans (congrArg some (by kernel_rfl))
 t0:=Tryz.underlying0
 a0:=Tryz.isAgg0
 z0:=Tryz.sizeOf0
 v0:=Tryz.zeroValue0
 t3:=Tryz.underlying3
 a3:=Tryz.isAgg3
 z3:=Tryz.sizeOf3
 v3:=Tryz.zeroValue3
 t4:=Tryz.underlying4
 a4:=Tryz.isAgg4
 z4:=Tryz.sizeOf4
 v4:=Tryz.zeroValue4
 t5:=Tryz.underlying5
 a5:=Tryz.isAgg5
 z5:=Tryz.sizeOf5
 v5:=Tryz.zeroValue5
 t9:=Tryz.underlying9
 a9:=Tryz.isAgg9
 z9:=Tryz.sizeOf9
 v9:=Tryz.zeroValue9
 t21:=Tryz.underlying21
 a21:=Tryz.isAgg21
 z21:=Tryz.sizeOf21
 v21:=Tryz.zeroValue21
 t46:=Tryz.underlying246
 a46:=Tryz.isAgg246
 z46:=Tryz.sizeOf246
 v46:=Tryz.zeroValue246
 t105:=Tryz.underlying283
 a105:=Tryz.isAgg283
 z105:=Tryz.sizeOf283
 v105:=Tryz.zeroValue283
 t116:=Tryz.underlying270
 a116:=Tryz.isAgg270
 z116:=Tryz.sizeOf270
 t117:=Tryz.underlying271
 a117:=Tryz.isAgg271
 z117:=Tryz.sizeOf271
 v117:=Tryz.zeroValue271
 t119:=Tryz.underlying288
 a119:=Tryz.isAgg288
 z119:=Tryz.sizeOf288
 t124:=Tryz.underlying274
 a124:=Tryz.isAgg274
 z124:=Tryz.sizeOf274
 v124:=Tryz.zeroValue274
 t138:=Tryz.underlying290
 a138:=Tryz.isAgg290
 z138:=Tryz.sizeOf290
 v138:=Tryz.zeroValue290
 t139:=Tryz.underlying291
 a139:=Tryz.isAgg291
 z139:=Tryz.sizeOf291
 v139:=Tryz.zeroValue291
 g3:=by kernel_rfl
 g4:=by kernel_rfl}
def Tryz.yj:Go.Shelf.Ren:=⟨fun|219=>239|217=>254|225=>255|224=>256|267=>257|266=>262|314=>263|n=>n,fun|9=>9|3=>3|4=>4|5=>5|46=>246|146=>275|51=>230|n=>n,fun|1=>0|n=>n⟩
theorem Tryz.Fc:Go.Proofs.Lays.n219 Tryz.prog Tryz.yj:={
 mixed:=by kernel_rfl
 f217:=Tryz.func254.trans (congrArg some (by kernel_rfl))
 f219:=Tryz.func239.trans (congrArg some (by kernel_rfl))
 f224:=Tryz.func256.trans (congrArg some (by kernel_rfl))
 f225:=Tryz.func255.trans (congrArg some (by kernel_rfl))
 f266:=Tryz.func262.trans (congrArg some (by kernel_rfl))
 f267:=Tryz.func257.trans (congrArg some (by kernel_rfl))
 f314:=Tryz.func263.trans (congrArg some (by kernel_rfl))
 t3:=Tryz.underlying3
 a3:=Tryz.isAgg3
 z3:=Tryz.sizeOf3
 v3:=Tryz.zeroValue3
 t4:=Tryz.underlying4
 a4:=Tryz.isAgg4
 z4:=Tryz.sizeOf4
 v4:=Tryz.zeroValue4
 t5:=Tryz.underlying5
 a5:=Tryz.isAgg5
 z5:=Tryz.sizeOf5
 v5:=Tryz.zeroValue5
 t9:=Tryz.underlying9
 a9:=Tryz.isAgg9
 z9:=Tryz.sizeOf9
 v9:=Tryz.zeroValue9
 t46:=Tryz.underlying246
 a46:=Tryz.isAgg246
 z46:=Tryz.sizeOf246
 v46:=Tryz.zeroValue246
 t51:=Tryz.underlying230
 a51:=Tryz.isAgg230
 z51:=Tryz.sizeOf230
 v51:=Tryz.zeroValue230
 t146:=Tryz.underlying275
 a146:=Tryz.isAgg275
 z146:=Tryz.sizeOf275
 v146:=Tryz.zeroValue275
 g1:=by kernel_rfl}
open Go.RowKit Go.Lib in
theorem Tryz.stringslite_Index_one(s:ByteArray)(c:UInt8)(w:World):
  Calls Tryz.prog 239 #[.string s,.string ⟨#[c]⟩] w fun e w'=>e=.returned (.int .i64 (Lib.indexByte s.data.toList c))/\w'=w:=Any.stringslite_Index_one Tryz.Fc s c w
end Go.Proofs
namespace Go.Am
open Go.RowKit
theorem ml.A9{P:Program}{f:FuncId}{ss:List (List UInt8)}{d:D}(hok:pc P f=true)(hnm:d.nm=[])(v:Value)(hv:∀ε w S,d.p ε w S v)
  (h:∀w,Calls P f (ss.map fun s=>Value.string ⟨s.toArray⟩).toArray w (fun e w'=>e=.returned v/\Below w.heap.size w w')):ml P f (ss.map cu) d where
 ok:=hok
 bV:=by
  induction ss with
  |nil=>rfl
  |cons s ss ih=>exact wE (fun _=>rfl) (s::ss)
 nm:=hnm
 calls:=by
  intro A w vs hvs;have e:vs=ss.map fun s=>Value.string ⟨s.toArray⟩:=by
   clear h
   induction ss generalizing vs with
   |nil=>cases vs with|nil=>rfl|cons _ _=>exact hvs.elim
   |cons s ss ih=>
    cases vs with
    |nil=>exact hvs.elim
    |cons v vs=>rw[List.map_cons,ih vs hvs.2,show v=_ from hvs.1]
  subst e;exact(h w).mono (fun e w' ⟨h1,h2⟩=>⟨v,h1,hv _ _ _,h2⟩)
def zG(s cut:List UInt8):Option (List UInt8):=cj (s.length<=9223372036854775807/\cut.length<4294967281/\∀b∈cut,b.toNat<128) (some (Lib.trimS s cut))
theorem HM{s cut r:List UInt8}(h:zG s cut=some r):bf PP 213 [] [cu s,cu cut] [] (cu r):=by
 obtain⟨⟨h0,h1,h2⟩,h⟩:=av h;injection h with h;subst h;refine(ml.A9 (ss:=[s,cut]) (by kernel_rfl) rfl (.string ⟨(Lib.trimS s cut).toArray⟩) (fun _ _ _=>rfl) (fun w=>?_)).gen;exact Go.Proofs.Any.strings_Trim_ascii Go.Proofs.Tryz.Fk (fun _=>by kernel_rfl) (by kernel_rfl) ⟨s.toArray⟩ ⟨cut.toArray⟩ w h0 h1 (fun j b hj=>h2 b (List.mem_of_getElem? hj))
def xx(s sep:List UInt8):Option Int:=cj (sep.length=1) (some (Lib.indexByte s (sep.getD 0 0)))
theorem Fz{s sep:List UInt8}{r:Int}(h:xx s sep=some r):bf PP 239 [] [cu s,cu sep] [] (D.int .i64 r):=by
 obtain⟨h0,h⟩:=av h;injection h with h;subst h
 match sep,h0 with
 |[c],_=>
  refine(ml.A9 (ss:=[s,[c]]) (by kernel_rfl) rfl (.int .i64 (Lib.indexByte s c)) (fun _ _ _=>rfl) (fun w=>?_)).gen;exact(Go.Proofs.Tryz.stringslite_Index_one ⟨s.toArray⟩ c w).mono (fun e w' ⟨h1,h2⟩=>⟨h1,h2▸Below.refl _ _⟩)
end Go.Am
namespace Go.Am
open Go.RowKit
set_option maxRecDepth 100000
noncomputable section
def jw(a1:List UInt8)(a2:List UInt8):Option Bool:=(if(decide ((a1.length:Int)>=(a2.length:Int)))=true then cj ((0:Int)<=(a2.length:Int)/\((a2.length:Int):Int)<=(a1.length:Int)) (some ((List.take (a2.length:Int).toNat a1)==a2))else some false)
theorem tG{a1:List UInt8}{a2:List UInt8}{r5:Bool}(h:jw a1 a2=some r5):bf PP 238 [] [cu a1,cu a2] [] (D.bool r5):=by
 unfold jw at h;refine .of Go.Proofs.Tryz.func238 rfl (by kernel_rfl) rfl rfl rfl rfl rfl rfl (fun A w0 L b=>?_);show Ok PP _ [(0,cu a1),(1,cu a2)] [] _ _;refine .al (.aq rfl<|.nil) rfl ?_;by_cases c3:(decide ((a1.length:Int)>=(a2.length:Int)))=true
 ·replace h:=ab c3 h;obtain⟨k4,h⟩:=av h;refine .al (.mv rfl<|.wL rfl de<|.mv rfl<|.wL rfl de<|.cm rfl rfl rfl<|.mv rfl<|.gy c3<|.mv rfl<|.gy c3<|.mv rfl<|.gy c3<|.wL rfl de<|.gy c3<|.Ku rfl rfl de k4.1 k4.2<|.gy c3<|.mv rfl<|.gy c3<|.Iz rfl rfl<|.aX rfl c3 rfl<|.aq rfl<|.nil) rfl ?_;cases h;refine .aO (fun _ _ hb=>hb) rfl (.t1 (.tmp rfl)) (.refl _) trivial trivial
 ·replace h:=aa c3 h;refine .al (.mv rfl<|.wL rfl de<|.mv rfl<|.wL rfl de<|.cm rfl rfl rfl<|.mv rfl<|.gm c3<|.gm c3<|.gm c3<|.gm c3<|.gm c3<|.gm c3<|.aT rfl c3 rfl<|.aq rfl<|.nil) rfl ?_;cases h;refine .aO (fun _ _ hb=>hb) rfl (.t1 (.tmp rfl)) (.refl _) trivial trivial
def jv(a1:List UInt8)(a2:List UInt8):Option ((List UInt8)×Bool):=(jw a1 a2).bind fun v3=>(if(!v3)=true then some (a1,false)else cj ((0:Int)<=(a2.length:Int)/\((a2.length:Int):Int)<=(a1.length:Int)) (some ((List.drop (a2.length:Int).toNat a1),true)))
theorem uB{a1:List UInt8}{a2:List UInt8}{r7:List UInt8}{r8:Bool}(h:jv a1 a2=some (r7,r8)):bf PP 209 [] [cu a1,cu a2] [] (D.ig [cu r7,D.bool r8]):=by
 unfold jv at h;refine .of Go.Proofs.Tryz.func209 rfl (by kernel_rfl) rfl rfl rfl rfl rfl rfl (fun A w0 L b=>?_);show Ok PP _ [(0,cu a1),(1,cu a2)] [] _ _;refine .al (.aq rfl<|.aq rfl<|.nil) rfl ?_;refine .sq ?_;obtain⟨v3,e4,h⟩:=bind_some h;refine .al (.mv rfl<|.mv rfl<|.ag (tG e4) ⟨rfl,rfl,trivial⟩ trivial trivial<|.not rfl<|.nil) rfl ?_;by_cases c5:(!v3)=true
 ·replace h:=ab c5 h;refine .cl rfl c5 ?_;refine .al (.mv rfl<|.aq rfl<|.aq rfl<|.nil) rfl ?_;cases h;refine .aO (fun _ _ hb=>hb) rfl (.cons (.tmp rfl) (.t1 (.tmp rfl))) (.refl _) trivial trivial
 ·replace h:=aa c5 h;refine .cq rfl c5 ?_;refine .skip (Ok.on ?_);obtain⟨k6,h⟩:=av h;refine .al (.mv rfl<|.mv rfl<|.wL rfl de<|.JW rfl rfl de k6.1 k6.2<|.aq rfl<|.aq rfl<|.nil) rfl ?_;cases h;refine .aO (fun _ _ hb=>hb) rfl (.cons (.tmp rfl) (.t1 (.tmp rfl))) (.refl _) trivial trivial
def iZ(a1:List UInt8)(a2:List UInt8):Option ((List UInt8)×Bool):=(jv a1 a2).bind fun(v3,v4)=>some (v3,v4)
theorem vd{a1:List UInt8}{a2:List UInt8}{r6:List UInt8}{r7:Bool}(h:iZ a1 a2=some (r6,r7)):bf PP 144 [] [cu a1,cu a2] [] (D.ig [cu r6,D.bool r7]):=by
 unfold iZ at h;refine .of Go.Proofs.Tryz.func144 rfl (by kernel_rfl) rfl rfl rfl rfl rfl rfl (fun A w0 L b=>?_);show Ok PP _ [(0,cu a1),(1,cu a2)] [] _ _;refine .al (.aq rfl<|.aq rfl<|.nil) rfl ?_;obtain⟨⟨v3,v4⟩,e5,h⟩:=bind_some h;refine .al (.mv rfl<|.mv rfl<|.ag (uB e5) ⟨rfl,rfl,trivial⟩ trivial trivial<|.ext rfl rfl<|.ext rfl rfl<|.aq rfl<|.aq rfl<|.nil) rfl ?_;cases h;refine .aO (fun _ _ hb=>hb) rfl (.cons (.tmp rfl) (.t1 (.tmp rfl))) (.refl _) trivial trivial
def pV(a1:List UInt8)(a2:List UInt8):Option ((List UInt8)×(List UInt8)×Bool):=(xx a1 a2).bind fun v3=>(if(decide (v3>=0))=true then cj ((0:Int)<=v3/\(v3:Int)<=(a1.length:Int)) (cj ((0:Int)<=(IntKind.i64.wrap (v3+(a2.length:Int)))/\((IntKind.i64.wrap (v3+(a2.length:Int))):Int)<=(a1.length:Int)) (some ((List.take v3.toNat a1),(List.drop (IntKind.i64.wrap (v3+(a2.length:Int))).toNat a1),true)))else some (a1,([]:List UInt8),false))
theorem CQ{a1:List UInt8}{a2:List UInt8}{r8:List UInt8}{r9:List UInt8}{r10:Bool}(h:pV a1 a2=some (r8,r9,r10)):bf PP 211 [] [cu a1,cu a2] [] (D.ig [cu r8,cu r9,D.bool r10]):=by
 unfold pV at h;refine .of Go.Proofs.Tryz.func211 rfl (by kernel_rfl) rfl rfl rfl rfl rfl rfl (fun A w0 L b=>?_);show Ok PP _ [(0,cu a1),(1,cu a2)] [] _ _;refine .al (.aq rfl<|.aq rfl<|.aq rfl<|.nil) rfl ?_;refine .sq ?_;obtain⟨v3,e4,h⟩:=bind_some h;refine .al (.mv rfl<|.mv rfl<|.ag (Fz e4) ⟨rfl,rfl,trivial⟩ trivial trivial<|.aq rfl<|.nil) rfl ?_;refine .al (.mv rfl<|.cm rfl rfl rfl<|.nil) rfl ?_;by_cases c5:(decide (v3>=0))=true
 ·replace h:=ab c5 h;refine .cl rfl c5 ?_;obtain⟨k6,h⟩:=av h;obtain⟨k7,h⟩:=av h;refine .cZ cf (.mv rfl<|.mv rfl<|.Ku rfl rfl de k6.1 k6.2<|.mv rfl<|.mv rfl<|.mv rfl<|.wL rfl de<|.ar rfl rfl rfl<|.JW rfl rfl de k7.1 k7.2<|.aq rfl<|.aq rfl<|.aq rfl<|.nil) rfl (by kernel_rfl) ?_;cases h;refine .aO (fun _ _ hb=>hb) rfl (.cons (.tmp rfl) (.cons (.tmp rfl) (.t1 (.tmp rfl)))) (.refl _) trivial trivial
 ·replace h:=aa c5 h;refine .cq rfl c5 ?_;refine .skip (Ok.on ?_);refine .al (.mv rfl<|.aq rfl<|.aq rfl<|.aq rfl<|.nil) rfl ?_;cases h;refine .aO (fun _ _ hb=>hb) rfl (.cons (.tmp rfl) (.cons (.tmp rfl) (.t1 (.tmp rfl)))) (.refl _) trivial trivial
def mh(a1:List UInt8)(a2:List UInt8):Option ((List UInt8)×(List UInt8)×Bool):=(pV a1 a2).bind fun(v3,v4,v5)=>some (v3,v4,v5)
theorem A6{a1:List UInt8}{a2:List UInt8}{r7:List UInt8}{r8:List UInt8}{r9:Bool}(h:mh a1 a2=some (r7,r8,r9)):bf PP 146 [] [cu a1,cu a2] [] (D.ig [cu r7,cu r8,D.bool r9]):=by
 unfold mh at h;refine .of Go.Proofs.Tryz.func146 rfl (by kernel_rfl) rfl rfl rfl rfl rfl rfl (fun A w0 L b=>?_);show Ok PP _ [(0,cu a1),(1,cu a2)] [] _ _;refine .al (.aq rfl<|.aq rfl<|.aq rfl<|.nil) rfl ?_;obtain⟨⟨v3,v4,v5⟩,e6,h⟩:=bind_some h;refine .al (.mv rfl<|.mv rfl<|.ag (CQ e6) ⟨rfl,rfl,trivial⟩ trivial trivial<|.ext rfl rfl<|.ext rfl rfl<|.ext rfl rfl<|.aq rfl<|.aq rfl<|.aq rfl<|.nil) rfl ?_;cases h;refine .aO (fun _ _ hb=>hb) rfl (.cons (.tmp rfl) (.cons (.tmp rfl) (.t1 (.tmp rfl)))) (.refl _) trivial trivial
def lW(a1:List UInt8):Option Bool:=(if(!(a1==([]:List UInt8)))=true then(zG a1 ([48,49,50,51,52,53,54,55,56,57]:List UInt8)).bind fun v3=>some (v3==([]:List UInt8))else some false)
theorem qM{a1:List UInt8}{r5:Bool}(h:lW a1=some r5):bf PP 149 [] [cu a1] [] (D.bool r5):=by
 unfold lW at h;refine .of Go.Proofs.Tryz.func149 rfl (by kernel_rfl) rfl rfl rfl rfl rfl rfl (fun A w0 L b=>?_);show Ok PP _ [(0,cu a1)] [] _ _;refine .al (.aq rfl<|.nil) rfl ?_;by_cases c2:(!(a1==([]:List UInt8)))=true
 ·replace h:=ab c2 h;obtain⟨v3,e4,h⟩:=bind_some h;refine .al (.mv rfl<|.Kr rfl rfl<|.mv rfl<|.gy c2<|.mv rfl<|.gy c2<|.ag (HM e4) ⟨rfl,rfl,trivial⟩ trivial trivial<|.gy c2<|.Iz rfl rfl<|.aX rfl c2 rfl<|.aq rfl<|.nil) rfl ?_;cases h;refine .aO (fun _ _ hb=>hb) rfl (.t1 (.tmp rfl)) (.refl _) trivial trivial
 ·replace h:=aa c2 h;refine .al (.mv rfl<|.Kr rfl rfl<|.mv rfl<|.gm c2<|.gm c2<|.gm c2<|.aT rfl c2 rfl<|.aq rfl<|.nil) rfl ?_;cases h;refine .aO (fun _ _ hb=>hb) rfl (.t1 (.tmp rfl)) (.refl _) trivial trivial
def ka(a1:List UInt8):Option Bool:=(lW a1).bind fun v2=>(if v2=true then(if(a1==([48]:List UInt8))=true then some true else(ix a1 0).bind fun v6=>some ((v6.toNat:Int) !=48))else some false)
theorem o0{a1:List UInt8}{r8:Bool}(h:ka a1=some r8):bf PP 147 [] [cu a1] [] (D.bool r8):=by
 unfold ka at h;refine .of Go.Proofs.Tryz.func147 rfl (by kernel_rfl) rfl rfl rfl rfl rfl rfl (fun A w0 L b=>?_);show Ok PP _ [(0,cu a1)] [] _ _;refine .al (.aq rfl<|.nil) rfl ?_;obtain⟨v2,e3,h⟩:=bind_some h;by_cases c4:v2=true
 ·replace h:=ab c4 h;by_cases c5:(a1==([48]:List UInt8))=true
  ·replace h:=ab c5 h;refine .al (.mv rfl<|.ag (qM e3) ⟨rfl,trivial⟩ trivial trivial<|.mv rfl<|.gy c4<|.mv rfl<|.gy c4<|.Iz rfl rfl<|.gy c4<|.mv rfl<|.gk c5<|.gk c5<|.gk c5<|.gy c4<|.aX rfl c5 rfl<|.aX rfl c4 rfl<|.aq rfl<|.nil) rfl ?_;cases h;refine .aO (fun _ _ hb=>hb) rfl (.t1 (.tmp rfl)) (.refl _) trivial trivial
  ·replace h:=aa c5 h;obtain⟨v6,e7,h⟩:=bind_some h;refine .al (.mv rfl<|.ag (qM e3) ⟨rfl,trivial⟩ trivial trivial<|.mv rfl<|.gy c4<|.mv rfl<|.gy c4<|.Iz rfl rfl<|.gy c4<|.mv rfl<|.gz c5<|.mv rfl<|.gz c5<|.Kq rfl rfl de (af e7).1 (af e7).2<|.gz c5<|.cm rfl rfl rfl<|.gy c4<|.aT rfl c5 rfl<|.aX rfl c4 rfl<|.aq rfl<|.nil) rfl ?_;cases h;refine .aO (fun _ _ hb=>hb) rfl (.t1 (.tmp rfl)) (.refl _) trivial trivial
 ·replace h:=aa c4 h;refine .al (.mv rfl<|.ag (qM e3) ⟨rfl,trivial⟩ trivial trivial<|.mv rfl<|.gm c4<|.gm c4<|.gm c4<|.gu<|.gu<|.gu<|.gm c4<|.aT rfl c4 rfl<|.aq rfl<|.nil) rfl ?_;cases h;refine .aO (fun _ _ hb=>hb) rfl (.t1 (.tmp rfl)) (.refl _) trivial trivial
def i_(v27:List UInt8)(v42:Nat)(v43:Int):Option (St (Nat×Int) Nat):=(if(decide (v43<(v27.length:Int)))=true then(m_ 10).bind fun v49=>(qN v42 v49).bind fun v51=>some (St.next (v51,(IntKind.i64.wrap (v43+1))))else some (St.done v42))
def th(a1:List UInt8):Option (((Bool×Nat)×Nat)×Int):=(if(decide ((a1.length:Int)>1000))=true then some (((false,0),0),5)else(iZ a1 ([45]:List UInt8)).bind fun(v3,v4)=>(m_ 1).bind fun v6=>((mh v3 ([47]:List UInt8)).bind fun(v10,v11,v12)=>(if v12=true then(ka v10).bind fun v15=>(if(!v15)=true then some (Ex.ret (((false,0),0),4))else(ka v11).bind fun v18=>(if(!v18)=true then some (Ex.ret (((false,0),0),4))else(oA v10).bind fun v21=>(oA v11).bind fun v23=>(if(((aL v23).length:Int)==0)=true then some (Ex.ret (((false,0),0),9))else some (Ex.cd (v21,v23)))))else(mh v3 ([46]:List UInt8)).bind fun(v26,v27,v28)=>((ka v26).bind fun v32=>(if(!v32)=true then some (Ex.ret (((false,0),0),4))else(if v28=true then(lW v27).bind fun v36=>(if(!v36)=true then some (Ex.ret (((false,0),0),4))else some (Ex.cd ()))else some (Ex.cd ())))).bind fun o30=>(match o30 with|Ex.cd ()=>cj (v26.length+v27.length<=9223372036854775807) ((oA (v26++v27)).bind fun v40=>(Loop (fun(s:Nat×Int)=>i_ v27 s.1 s.2) (v6,0)).bind fun v53=>some (Ex.cd (v40,v53)))|Ex.ret (((r54,r55),r56),r57)=>some (Ex.ret (((r54,r55),r56),r57))))).bind fun o8=>(match o8 with|Ex.cd (v58,v59)=>(dc v4 v58).bind fun(v60,v61)=>(fl v60 v61 v59).bind fun((v63,v64),v65)=>some (((v63,v64),v65),0)|Ex.ret (((r67,r68),r69),r70)=>some (((r67,r68),r69),r70)))
theorem Gh{a1:List UInt8}{r71:Bool}{r72:Nat}{r73:Nat}{r74:Int}(h:th a1=some (((r71,r72),r73),r74)):bf PP 23 [] [cu a1] [] (D.ig [D.agg ([D.bool r71,ao r72,ao r73]),D.int .i64 r74]):=by
 unfold th at h;refine .of Go.Proofs.Tryz.func23 rfl (by kernel_rfl) rfl rfl rfl rfl rfl rfl (fun A w0 L b=>?_);show Ok PP _ [(0,cu a1)] [] _ _;refine .al (.fN ([D.bool false,ao 0,ao 0]) aI ⟨.refl _,bj,bj,trivial⟩ rfl<|.aq rfl<|.nil) rfl ?_;refine .sq ?_;refine .al (.mv rfl<|.wL rfl de<|.cm rfl rfl rfl<|.nil) rfl ?_;by_cases c2:(decide ((a1.length:Int)>1000))=true
 ·replace h:=ab c2 h;refine .cl rfl c2 ?_;refine .al (.n_ ([D.bool false,ao 0,ao 0]) [] aI cY trivial trivial ⟨.refl _,bj,bj,trivial⟩<|.cU ([D.bool false,ao 0,ao 0]) rfl rfl rfl ae rfl rfl rfl<|.aq rfl<|.nil) rfl ?_;cases h;refine .aO (fun _ _ hb=>hb) rfl (.cons (.agg rfl rfl ae rfl) (.t1 (.tmp rfl))) (.refl _) trivial trivial
 ·replace h:=aa c2 h;refine .cq rfl c2 ?_;refine .skip (Ok.on ?_);obtain⟨⟨v3,v4⟩,e5,h⟩:=bind_some h;refine .al (.mv rfl<|.ag (vd e5) ⟨rfl,rfl,trivial⟩ trivial trivial<|.mv rfl<|.ext rfl rfl<|.ext rfl rfl<|.aq rfl<|.aq rfl<|.nil) rfl ?_;obtain⟨v6,e7,h⟩:=bind_some h;refine .al (.ag (uY e7) ⟨rfl,trivial⟩ trivial trivial<|.aq rfl<|.aq rfl<|.nil) rfl ?_;obtain⟨o8,hp9,h⟩:=bind_some h;refine .cc (fun i=>o8=Ex.cd i) (fun(i:Nat×Nat)=>[(2,D.ref 2 0),(4,D.bool v4),(5,ao i.1),(6,ao i.2)]) (fun(i:Nat×Nat)=>[(2,Hp.box 28 ([D.bool false,ao 0,ao 0]))]) ?_ ?_
  ·have ho1:=h;have h:=hp9;obtain⟨⟨v10,v11,v12⟩,e13,h⟩:=bind_some h;refine .al (.mv rfl<|.ag (A6 e13) ⟨rfl,rfl,trivial⟩ trivial trivial<|.mv rfl<|.ext rfl rfl<|.ext rfl rfl<|.ext rfl rfl<|.aq rfl<|.aq rfl<|.aq rfl<|.nil) rfl ?_;refine .al (.mv rfl<|.nil) rfl ?_;by_cases c14:v12=true
   ·replace h:=ab c14 h;refine .cl rfl c14 ?_;refine .sq ?_;obtain⟨v15,e16,h⟩:=bind_some h;by_cases c17:(!v15)=true
    ·replace h:=ab c17 h;refine .al (.mv rfl<|.ag (o0 e16) ⟨rfl,trivial⟩ trivial trivial<|.not rfl<|.mv rfl<|.gk c17<|.gk c17<|.gk c17<|.aX rfl c17 rfl<|.nil) rfl ?_;refine .cl rfl rfl ?_;refine .al (.n_ ([D.bool false,ao 0,ao 0]) [] aI cY trivial trivial ⟨.refl _,bj,bj,trivial⟩<|.cU ([D.bool false,ao 0,ao 0]) rfl rfl rfl ae rfl rfl rfl<|.aq rfl<|.nil) rfl ?_;cases h;have h:=ho1;cases h;refine .aO (fun _ _ hb=>hb) rfl (.cons (.agg rfl rfl ae rfl) (.t1 (.tmp rfl))) (.refl _) trivial trivial
    ·replace h:=aa c17 h;obtain⟨v18,e19,h⟩:=bind_some h;refine .al (.mv rfl<|.ag (o0 e16) ⟨rfl,trivial⟩ trivial trivial<|.not rfl<|.mv rfl<|.gz c17<|.mv rfl<|.gz c17<|.ag (o0 e19) ⟨rfl,trivial⟩ trivial trivial<|.gz c17<|.not rfl<|.aT rfl c17 rfl<|.nil) rfl ?_;by_cases c20:(!v18)=true
     ·replace h:=ab c20 h;refine .cl rfl c20 ?_;refine .al (.n_ ([D.bool false,ao 0,ao 0]) [] aI cY trivial trivial ⟨.refl _,bj,bj,trivial⟩<|.cU ([D.bool false,ao 0,ao 0]) rfl rfl rfl ae rfl rfl rfl<|.aq rfl<|.nil) rfl ?_;cases h;have h:=ho1;cases h;refine .aO (fun _ _ hb=>hb) rfl (.cons (.agg rfl rfl ae rfl) (.t1 (.tmp rfl))) (.refl _) trivial trivial
     ·replace h:=aa c20 h;refine .cq rfl c20 ?_;refine .skip (Ok.on ?_);obtain⟨v21,e22,h⟩:=bind_some h;obtain⟨v23,e24,h⟩:=bind_some h;refine .al (.mv rfl<|.ag (zY e22) ⟨rfl,trivial⟩ trivial trivial<|.mv rfl<|.ag (zY e24) ⟨rfl,trivial⟩ trivial trivial<|.aq rfl<|.aq rfl<|.nil) rfl ?_;refine .al (.mv rfl<|.y_ rfl aw<|.cm rfl rfl rfl<|.nil) rfl ?_;by_cases c25:(((aL v23).length:Int)==0)=true
      ·replace h:=ab c25 h;refine .cl rfl c25 ?_;refine .al (.n_ ([D.bool false,ao 0,ao 0]) [] aI cY trivial trivial ⟨.refl _,bj,bj,trivial⟩<|.cU ([D.bool false,ao 0,ao 0]) rfl rfl rfl ae rfl rfl rfl<|.aq rfl<|.nil) rfl ?_;cases h;have h:=ho1;cases h;refine .aO (fun _ _ hb=>hb) rfl (.cons (.agg rfl rfl ae rfl) (.t1 (.tmp rfl))) (.refl _) trivial trivial
      ·replace h:=aa c25 h;refine .cq rfl c25 ?_;refine .skip (fun _ _ hs=>⟨(v21,v23),(sj h),hs.sub (.of rfl) (.of rfl) rfl rfl⟩)
   ·replace h:=aa c14 h;refine .cq rfl c14 ?_;obtain⟨⟨v26,v27,v28⟩,e29,h⟩:=bind_some h;refine .al (.mv rfl<|.ag (A6 e29) ⟨rfl,rfl,trivial⟩ trivial trivial<|.mv rfl<|.ext rfl rfl<|.ext rfl rfl<|.ext rfl rfl<|.aq rfl<|.aq rfl<|.aq rfl<|.nil) rfl ?_;obtain⟨o30,hp31,h⟩:=bind_some h;refine .cc (fun i=>o30=Ex.cd i) (fun(i:Unit)=>[(2,D.ref 2 0),(4,D.bool v4),(6,ao v6),(10,cu v26),(11,cu v27)]) (fun(i:Unit)=>[(2,Hp.box 28 ([D.bool false,ao 0,ao 0]))]) ?_ ?_
    ·have ho2:=h;have h:=hp31;obtain⟨v32,e33,h⟩:=bind_some h;by_cases c34:(!v32)=true
     ·replace h:=ab c34 h;refine .al (.mv rfl<|.ag (o0 e33) ⟨rfl,trivial⟩ trivial trivial<|.not rfl<|.mv rfl<|.gk c34<|.gk c34<|.gu<|.gu<|.gu<|.gk c34<|.aX rfl c34 rfl<|.nil) rfl ?_;refine .cl rfl rfl ?_;refine .al (.n_ ([D.bool false,ao 0,ao 0]) [] aI cY trivial trivial ⟨.refl _,bj,bj,trivial⟩<|.cU ([D.bool false,ao 0,ao 0]) rfl rfl rfl ae rfl rfl rfl<|.aq rfl<|.nil) rfl ?_;cases h;have h:=ho2;cases h;have h:=ho1;cases h;refine .aO (fun _ _ hb=>hb) rfl (.cons (.agg rfl rfl ae rfl) (.t1 (.tmp rfl))) (.refl _) trivial trivial
     ·replace h:=aa c34 h;by_cases c35:v28=true
      ·replace h:=ab c35 h;obtain⟨v36,e37,h⟩:=bind_some h;refine .al (.mv rfl<|.ag (o0 e33) ⟨rfl,trivial⟩ trivial trivial<|.not rfl<|.mv rfl<|.gz c34<|.mv rfl<|.gz c34<|.mv rfl<|.gy c35<|.mv rfl<|.gy c35<|.ag (qM e37) ⟨rfl,trivial⟩ trivial trivial<|.gy c35<|.not rfl<|.gz c34<|.aX rfl c35 rfl<|.aT rfl c34 rfl<|.nil) rfl ?_;by_cases c38:(!v36)=true
       ·replace h:=ab c38 h;refine .cl rfl c38 ?_;refine .al (.n_ ([D.bool false,ao 0,ao 0]) [] aI cY trivial trivial ⟨.refl _,bj,bj,trivial⟩<|.cU ([D.bool false,ao 0,ao 0]) rfl rfl rfl ae rfl rfl rfl<|.aq rfl<|.nil) rfl ?_;cases h;have h:=ho2;cases h;have h:=ho1;cases h;refine .aO (fun _ _ hb=>hb) rfl (.cons (.agg rfl rfl ae rfl) (.t1 (.tmp rfl))) (.refl _) trivial trivial
       ·replace h:=aa c38 h;refine .cq rfl c38 ?_;refine .skip (fun _ _ hs=>⟨(),(sj h),hs.sub (.of rfl) (.of rfl) rfl rfl⟩)
      ·replace h:=aa c35 h;refine .al (.mv rfl<|.ag (o0 e33) ⟨rfl,trivial⟩ trivial trivial<|.not rfl<|.mv rfl<|.gz c34<|.mv rfl<|.gz c34<|.mv rfl<|.gm c35<|.gm c35<|.gm c35<|.gz c34<|.aT rfl c35 rfl<|.aT rfl c34 rfl<|.nil) rfl ?_;refine .cq rfl (by decide) ?_;refine .skip (fun _ _ hs=>⟨(),(sj h),hs.sub (.of rfl) (.of rfl) rfl rfl⟩)
    ·rintro⟨⟩ rfl
     try dsimp only
     obtain⟨k39,h⟩:=av h;obtain⟨v40,e41,h⟩:=bind_some h;refine .al (.mv rfl<|.mv rfl<|.yB rfl rfl k39<|.ag (zY e41) ⟨rfl,trivial⟩ trivial trivial<|.aq rfl<|.nil) rfl ?_;refine .al (.mv rfl<|.wL rfl de<|.mv rfl<|.nil) rfl ?_;obtain⟨o44,hl45,h⟩:=bind_some h;have ho2:=h;refine .block (.bU (fun(s:Nat×Int)=>[(2,D.ref 2 0),(4,D.bool v4),(5,ao v40),(6,ao s.1),(70,D.int .i64 (v27.length:Int)),(71,D.int .i64 s.2)]) (fun(s:Nat×Int)=>[(2,Hp.box 28 ([D.bool false,ao 0,ao 0]))]) hl45 (.of rfl) (.of rfl) rfl rfl ?_);rintro⟨v42,v43⟩ st46 hb47;have h:i_ v27 v42 v43=some st46:=hb47;unfold i_ at h
     try dsimp only
     refine .al (.cm rfl rfl rfl<|.nil) rfl ?_;refine .sq ?_;by_cases c48:(decide (v43<(v27.length:Int)))=true
     ·replace h:=ab c48 h;refine .cl rfl c48 ?_;refine .skip (Ok.on ?_);refine .sq ?_;refine .block ?_;obtain⟨v49,e50,h⟩:=bind_some h;obtain⟨v51,e52,h⟩:=bind_some h;refine .region (.mv rfl<|.ag (uY e50) ⟨rfl,trivial⟩ trivial trivial<|.ag (uy e52) ⟨rfl,rfl,trivial⟩ trivial trivial<|.aq rfl<|.nil) rfl (Ok.on ?_);refine .region (.ar rfl rfl rfl<|.mv rfl<|.nil) rfl (fun _ _ hs=>⟨(v51,(IntKind.i64.wrap (v43+1))),(sj h),hs.sub (.of rfl) (.of rfl) rfl rfl⟩)
     ·replace h:=aa c48 h;refine .cq rfl c48 ?_;refine .exit (fun a w hs=>⟨_,(sj h),fun e=>by subst e;have h:=ho2;exact aS (⟨(v40,v42),(sj h),hs.sub (.of rfl) (.of rfl) rfl rfl⟩)⟩)
  ·rintro⟨v58,v59⟩ rfl
   try dsimp only
   obtain⟨⟨v60,v61⟩,e62,h⟩:=bind_some h;obtain⟨⟨⟨v63,v64⟩,v65⟩,e66,h⟩:=bind_some h;refine .al (.mv rfl<|.mv rfl<|.ag (eY e62) ⟨rfl,rfl,trivial⟩ trivial trivial<|.mv rfl<|.ag (lK e66) ⟨rfl,rfl,trivial⟩ trivial trivial<|.cU ([D.bool v63,ao v64,ao v65]) rfl rfl rfl ae rfl rfl rfl<|.aq rfl<|.nil) rfl ?_;cases h;refine .aO (fun _ _ hb=>hb) rfl (.cons (.agg rfl rfl ae rfl) (.t1 (.tmp rfl))) (.refl _) trivial trivial
end
end Go.Am
namespace Go.Am
open Go.RowKit
def y9(s:List UInt8):Bool:= !s.isEmpty&&s.all fun b=>decide (48<=b.toNat)&&decide (b.toNat<=57)
def vo(s:List UInt8):Bool:=y9 s&&(s==[48]|| !(s.head?==some 48))
def j0(c:UInt8):List UInt8->List UInt8×List UInt8×Bool
 |[]=>([],[],false)
 |b::l=>if b=c then([],l,true)else(b::(j0 c l).1,(j0 c l).2.1,(j0 c l).2.2)
theorem tL{s:List UInt8}(h:y9 s=true):vf s/\s≠[]:=by
 unfold y9 at h;rw[Bool.and_eq_true]at h;refine⟨fun b hb=>?_,fun e=>by rw[e]at h;simp at h⟩;have:=List.all_eq_true.1 h.2 b hb;simp only[Bool.and_eq_true,decide_eq_true_eq]at this;exact this
theorem uR(c:UInt8):∀l,(j0 c l).1.length+(j0 c l).2.1.length<=l.length
 |[]=>Nat.le_refl _
 |b::l=>by
  have:=uR c l;unfold j0
  split
  ·simp only[List.length_nil,List.length_cons];omega
  ·simp only[List.length_cons];omega
theorem yH(c:UInt8):∀l,(j0 c l).2.2=false->j0 c l=(l,[],false)
 |[],_=>rfl
 |b::l,h=>by
  unfold j0 at h|-;by_cases e:b=c
  ·rw[if_pos e]at h;cases h
  ·rw[if_neg e]at h|-;rw[yH c l h]
theorem dropWhile_nil{α:Type}(p:α->Bool):∀(l:List α),l.dropWhile p=[]↔∀x∈l,p x=true
 |[]=>by simp
 |a::l=>by
  by_cases h:p a=true
  ·rw[List.dropWhile_cons_of_pos h,dropWhile_nil p l];simp[h]
  ·rw[List.dropWhile_cons_of_neg h];simp[h]
theorem n0{α:Type}(p:α->Bool):∀(l:List α) (x:α) (m:List α),l.dropWhile p=x::m->¬p x=true
 |[],x,m,h=>by cases h
 |a::l,x,m,h=>by
  by_cases hp:p a=true
  ·rw[List.dropWhile_cons_of_pos hp]at h;exact n0 p l x m h
  ·rw[List.dropWhile_cons_of_neg hp]at h;injection h with h1 h2;subst h1;exact hp
theorem Br(l cs:List UInt8):Lib.trimS l cs=[]↔∀b∈l,cs.contains b=true:=by
 unfold Lib.trimS Lib.trimLeftS Lib.trimRightS;rw[dropWhile_nil];have hr:=dropWhile_nil (cs.contains ·) l.reverse
 constructor
 ·intro h;cases e:l.reverse.dropWhile (cs.contains ·)with
  |nil=>
   rw[e]at hr;intro b hb;exact hr.1 rfl b (List.mem_reverse.2 hb)
  |cons x m=>
   exfalso
   refine n0 _ _ _ _ e (h x ?_);rw[e];simp
 ·intro h;have:l.reverse.dropWhile (cs.contains ·)=[]:=hr.2 fun b hb=>h b (List.mem_reverse.1 hb);rw[this];simp
theorem DB(b:UInt8):([48,49,50,51,52,53,54,55,56,57]:List UInt8).contains b=(decide (48<=b.toNat)&&decide (b.toNat<=57)):=by
 have key:∀n:Nat,n<256->([48,49,50,51,52,53,54,55,56,57]:List UInt8).contains (UInt8.ofNat n)=(decide (48<=n)&&decide (n<=57)):=by decide+kernel
 have:=key b.toNat b.toNat_lt;rw[UInt8.ofNat_toNat]at this;exact this
theorem wk(s:List UInt8)(hl:s.length<=1000000):lW s=some (y9 s):=by
 unfold lW y9
 cases s with
 |nil=>rfl
 |cons a t=>
  have h1:(!((a::t)==([]:List UInt8)))=true:=rfl;rw[if_pos h1];have h2:zG (a::t) ([48,49,50,51,52,53,54,55,56,57]:List UInt8)=some (Lib.trimS (a::t) [48,49,50,51,52,53,54,55,56,57]):=cC ⟨by omega,by decide,by decide⟩ rfl;rw[h2,Option.bind_some]
  congr 1
  have h3:=Br (a::t) [48,49,50,51,52,53,54,55,56,57];simp only[DB]at h3;have h4:(!(a::t).isEmpty)=true:=rfl;rw[h4,Bool.true_and];by_cases e:Lib.trimS (a::t) [48,49,50,51,52,53,54,55,56,57]=[]
  ·rw[e,List.all_eq_true.2 (h3.1 e)];rfl
  ·have h5:((a::t).all fun b=>decide (48<=b.toNat)&&decide (b.toNat<=57))=false:=by
    apply Bool.eq_false_iff.2;intro h;exact e (h3.2 (List.all_eq_true.1 h))
   rw[h5,beq_eq_false_iff_ne];exact e
theorem tX(s:List UInt8)(hl:s.length<=1000000):ka s=some (vo s):=by
 unfold ka vo;rw[wk s hl,Option.bind_some];by_cases hd:y9 s=true
 ·rw[if_pos hd,hd,Bool.true_and];by_cases h0:(s==([48]:List UInt8))=true
  ·rw[if_pos h0,h0];rfl
  ·rw[if_neg h0];have h0':(s==([48]:List UInt8))=false:=by simpa using h0
   rw[h0',Bool.false_or];obtain⟨_,hne⟩:=tL hd
   cases s with
   |nil=>exact absurd rfl hne
   |cons a t=>
    have:ix (a::t) 0=some a:=rfl;rw[this,Option.bind_some,List.head?_cons]
    congr 1
    by_cases e:a=48
    ·subst e;rfl
    ·have h1:((a.toNat:Int) !=48)=true:=by
      rw[bne_iff_ne];intro h;apply e;apply UInt8.toNat_inj.1;rw[show(48:UInt8).toNat=48 from rfl];omega
     have h2:((some a==some (48:UInt8)))=false:=by
      rw[beq_eq_false_iff_ne];intro h;injection h with h;exact e h
     rw[h1,h2];rfl
 ·rw[if_neg hd];have:y9 s=false:=by simpa using hd
  rw[this];rfl
theorem Aq(c:UInt8):∀l,(j0 c l=if Lib.indexByte l c=-1 then(l,[],false)else(l.take (Lib.indexByte l c).toNat,l.drop ((Lib.indexByte l c).toNat+1),true))/\-1<=Lib.indexByte l c/\Lib.indexByte l c<(l.length:Int)
 |[]=>by simp[j0,Lib.indexByte]
 |b::l=>by
  obtain⟨h1,h2,h3⟩:=Aq c l;have hv:Lib.indexByte (b::l) c=if b==c then 0 else if Lib.indexByte l c==-1 then-1 else Lib.indexByte l c+1:=rfl;rw[hv];unfold j0;by_cases e:b=c
  ·have e':(b==c)=true:=by simpa using e
   rw[if_pos e,if_pos e'];refine⟨?_,by omega,by simp only[List.length_cons];omega⟩;rw[if_neg (by decide)];rfl
  ·have e':¬(b==c)=true:=by simpa using e
   rw[if_neg e,if_neg e',h1];by_cases h0:Lib.indexByte l c=-1
   ·have h0':(Lib.indexByte l c==-1)=true:=by simpa using h0
    rw[if_pos h0',if_pos h0,if_pos rfl];exact⟨rfl,by omega,by simp only[List.length_cons];omega⟩
   ·have h0':¬(Lib.indexByte l c==-1)=true:=by simpa using h0
    rw[if_neg h0',if_neg h0,if_neg (by omega)];have h4:(Lib.indexByte l c+1).toNat=(Lib.indexByte l c).toNat+1:=by omega
    refine⟨?_,by omega,by simp only[List.length_cons];omega⟩;rw[h4];rfl
theorem D7(s:List UInt8)(c:UInt8)(hl:s.length<=1000000):mh s [c]=some (j0 c s):=by
 obtain⟨h1,h2,h3⟩:=Aq c s;unfold mh pV;have hx:xx s [c]=some (Lib.indexByte s c):=cC rfl rfl;rw[hx,h1];simp only[Option.bind_some];by_cases h0:Lib.indexByte s c=-1
 ·rw[if_neg (by rw[h0];decide),if_pos h0];rfl
 ·rw[if_pos (decide_eq_true (by omega)),if_neg h0];have e:IntKind.i64.wrap (Lib.indexByte s c+(([c]:List UInt8).length:Int))=Lib.indexByte s c+1:=i64_in (by simp only[List.length_cons,List.length_nil];omega);rw[e,aQ (by omega),aQ (by omega)];have h4:(Lib.indexByte s c+1).toNat=(Lib.indexByte s c).toNat+1:=by omega
  rw[h4];rfl
theorem yV(s:List UInt8)(hl:s.length<=1000000):iZ s [45]=some (if s.head?=some 45 then(s.drop 1,true)else(s,false)):=by
 unfold iZ jv jw
 cases s with
 |nil=>rfl
 |cons a t=>
  rw[if_pos (decide_eq_true (by simp only[List.length_cons,List.length_nil];omega)),aQ (by simp only[List.length_cons,List.length_nil];omega)];simp only[Option.bind_some];have h1:(List.take ((([45]:List UInt8).length:Nat):Int).toNat (a::t)==([45]:List UInt8))=(a==45):=by
   show([a]==[45])=(a==45);by_cases e:a=45
   ·subst e;rfl
   ·have h2:(a==45)=false:=by simpa using e
    rw[h2,beq_eq_false_iff_ne];intro h;injection h with h;exact e h
  rw[h1];by_cases e:a=45
  ·subst e;rw[if_neg (by decide),aQ (by simp only[List.length_cons,List.length_nil];omega),if_pos (show(45::t).head?=some 45 from rfl)];rfl
  ·have h2:(a==45)=false:=by simpa using e
   have h3:¬(a::t).head?=some 45:=by intro h;injection h with h;exact e h
   rw[h2,if_neg h3];rfl
def uN(neg:Bool)(t:List UInt8):Rat×Int:=
 if(j0 47 t).2.2 then
  if !vo (j0 47 t).1 then(0,4)else if !vo (j0 47 t).2.1 then(0,4)else if kN (j0 47 t).2.1=0 then(0,9)else(mkRat (sg neg (kN (j0 47 t).1)) (kN (j0 47 t).2.1),0)
 else if !vo (j0 46 t).1 then(0,4)else if(j0 46 t).2.2&& !y9 (j0 46 t).2.1 then(0,4)
 else(mkRat (sg neg (kN ((j0 46 t).1++(j0 46 t).2.1))) (10^(j0 46 t).2.1.length),0)
def wS(s:List UInt8):Rat×Int:=if 1000<s.length then(0,5)else if s.head?=some 45 then uN true (s.drop 1)else uN false s
theorem Bj(a:List UInt8)(hl:a.length<=1000):Loop (fun(s:Nat×Int)=>i_ a s.1 s.2) (1,0)=some (10^a.length):=by
 have hb:∀i,i<=1000->sm (10^i):=by
  intro i hi;have h1:10^i<2^(4*i+1):=Nat.lt_of_le_of_lt (Nat.pow_le_pow_left (show 10<=16 by decide) i) (by rw[show(16:Nat)=2^4 from rfl,←Nat.pow_mul];exact Nat.pow_lt_pow_right (by decide) (by omega));exact fZ (ir.2 h1) (by omega)
 obtain⟨r,hr,rfl⟩:=cx (body:=fun(s:Nat×Int)=>i_ a s.1 s.2) (1,0) (fun s=>∃i:Nat,i<=a.length/\s=(10^i,(i:Int))) (fun s=>(a.length-s.2).toNat) (fun r=>r=10^a.length) ⟨0,Nat.zero_le _,rfl⟩ (by
  rintro s ⟨i,hi,rfl⟩;simp only;unfold i_;by_cases h:i<a.length
  ·left
   have e10:m_ (10:Int)=some 10:=kW (n:=10) (by omega);rw[if_pos (decide_eq_true (by omega)),e10,Option.bind_some,lV (hb i (by omega)) (jC (by decide)),Option.bind_some];have e4:IntKind.i64.wrap ((i:Int)+1)=((i+1:Nat):Int):=by rw[i64_in (by omega)];omega
   rw[e4];exact⟨_,rfl,⟨i+1,h,by rw[Nat.pow_succ]⟩,by simp only;omega⟩
  ·right
   rw[if_neg (by simp;omega)];exact⟨_,rfl,by rw[show i=a.length from by omega]⟩)
 exact hr
theorem oN{s:List UInt8}(h:y9 s=true)(hl:s.length<=1000):oA s=some (kN s):=cC ⟨by omega,(tL h).1⟩ rfl
theorem qv{s:List UInt8}(h:y9 s=true)(hl:s.length<=2000):sm (kN s):=fZ (Gj (tL h).1 (by omega)) (by omega)
theorem Db{n:Nat}(h:n<=1000):sm (10^n):=by
 have h1:10^n<2^(4*n+1):=Nat.lt_of_le_of_lt (Nat.pow_le_pow_left (show 10<=16 by decide) n) (by rw[show(16:Nat)=2^4 from rfl,←Nat.pow_mul];exact Nat.pow_lt_pow_right (by decide) (by omega));exact fZ (ir.2 h1) (by omega)
theorem tS{s:List UInt8}(h:vo s=true):y9 s=true:=by unfold vo at h;rw[Bool.and_eq_true]at h;exact h.1
theorem zH{a b:List UInt8}(h:y9 a=true)(k:y9 b=true):y9 (a++b)=true:=by
 unfold y9 at*;rw[Bool.and_eq_true]at*;refine⟨?_,by rw[List.all_append,h.2,k.2];rfl⟩
 cases a with
 |nil=>simp at h
 |cons x l=>rfl
theorem zd(neg:Bool)(n d:Nat)(hd:d≠0)(hn:sm n)(hs:sm d):((dc neg n).bind fun(v60,v61)=>(fl v60 v61 d).bind fun((v63,v64),v65)=>some (((v63,v64),v65),(0:Int)))=some (rp (mkRat (sg neg n) d),0):=by
 rw[dZ,Option.bind_some];dsimp only;rw[kk _ _ hd (by rw[oj];exact hn) hs];rfl
theorem v_(neg:Bool)(t:List UInt8)(hl:t.length<=1000):
  ((mh t ([47]:List UInt8)).bind fun(v10,v11,v12)=>(if v12=true then(ka v10).bind fun v15=>(if(!v15)=true then some (Ex.ret (((false,0),0),4))else(ka v11).bind fun v18=>(if(!v18)=true then some (Ex.ret (((false,0),0),4))else(oA v10).bind fun v21=>(oA v11).bind fun v23=>(if(((aL v23).length:Int)==0)=true then some (Ex.ret (((false,0),0),9))else some (Ex.cd (v21,v23)))))else(mh t ([46]:List UInt8)).bind fun(v26,v27,v28)=>((ka v26).bind fun v32=>(if(!v32)=true then some (Ex.ret (((false,0),0),4))else(if v28=true then(lW v27).bind fun v36=>(if(!v36)=true then some (Ex.ret (((false,0),0),4))else some (Ex.cd ()))else some (Ex.cd ())))).bind fun o30=>(match o30 with|Ex.cd ()=>cj (v26.length+v27.length<=9223372036854775807) ((oA (v26++v27)).bind fun v40=>(Loop (fun(s:Nat×Int)=>i_ v27 s.1 s.2) (1,0)).bind fun v53=>some (Ex.cd (v40,v53)))|Ex.ret (((r54,r55),r56),r57)=>some (Ex.ret (((r54,r55),r56),r57)))):Option (Ex (Nat×Nat) (((Bool×Nat)×Nat)×Nat))).bind (fun o8=>(match o8 with|Ex.cd (v58,v59)=>(dc neg v58).bind fun(v60,v61)=>(fl v60 v61 v59).bind fun((v63,v64),v65)=>some (((v63,v64),v65),(0:Int))|Ex.ret (((r67,r68),r69),r70)=>some (((r67,r68),r69),(r70:Int))))
  =some (rp (uN neg t).1,(uN neg t).2):=by
 have c1:=uR 47 t;have c2:=uR 46 t;have hn46:=yH 46 t;rw[D7 t 47 (by omega),D7 t 46 (by omega)];unfold uN;generalize j0 47 t=A at*;generalize j0 46 t=B at*;obtain⟨b,a,f⟩:=A;obtain⟨b',a',f'⟩:=B;simp only at c1 c2 hn46;simp only[Option.bind_some];cases f
 ·simp only[Option.bind_some,Bool.false_eq_true,if_false,if_true,Bool.not_true,Bool.not_false,Bool.false_and,Bool.true_and];rw[tX _ (by omega),wk _ (by omega)];cases h1:vo b'
  ·simp only[Option.bind_some,Bool.false_eq_true,if_false,if_true,Bool.not_true,Bool.not_false,Bool.false_and,Bool.true_and];rfl
  ·have d1:=tS h1;cases f'
   ·have hn:=hn46 rfl;injection hn with e1 hn;injection hn with e2 _;subst e1;subst e2;simp only[Option.bind_some,Bool.false_eq_true,if_false,if_true,Bool.not_true,Bool.not_false,Bool.false_and,Bool.true_and];rw[aQ (by simp only[List.length_nil];omega),oN (by rw[List.append_nil];exact d1) (by rw[List.append_nil];exact hl),Option.bind_some,Bj _ (by decide),Option.bind_some,Option.bind_some];dsimp only;have hfin:=zd neg (kN (b'++[])) (10^([]:List UInt8).length) (by decide) (qv (by rw[List.append_nil];exact d1) (by rw[List.append_nil];omega)) (Db (by decide));exact hfin
   ·cases h3:y9 a'
    ·simp only[Option.bind_some,Bool.false_eq_true,if_false,if_true,Bool.not_true,Bool.not_false,Bool.false_and,Bool.true_and];rfl
    ·simp only[Option.bind_some,Bool.false_eq_true,if_false,if_true,Bool.not_true,Bool.not_false,Bool.false_and,Bool.true_and];have d2:=zH d1 h3;have hl2:(b'++a').length<=1000:=by rw[List.length_append];omega
     rw[aQ (by omega),oN d2 hl2,Option.bind_some,Bj _ (by omega),Option.bind_some,Option.bind_some];dsimp only;have hfin:=zd neg (kN (b'++a')) (10^a'.length) (Nat.pos_iff_ne_zero.1 (Nat.pow_pos (by decide))) (qv d2 (by omega)) (Db (by omega));exact hfin
 ·simp only[Option.bind_some,Bool.false_eq_true,if_false,if_true,Bool.not_true,Bool.not_false,Bool.false_and,Bool.true_and];rw[tX _ (by omega),tX _ (by omega)];cases h1:vo b
  ·simp only[Option.bind_some,Bool.false_eq_true,if_false,if_true,Bool.not_true,Bool.not_false,Bool.false_and,Bool.true_and];rfl
  ·cases h2:vo a
   ·simp only[Option.bind_some,Bool.false_eq_true,if_false,if_true,Bool.not_true,Bool.not_false,Bool.false_and,Bool.true_and];rfl
   ·have d1:=tS h1;have d2:=tS h2;simp only[Option.bind_some,Bool.false_eq_true,if_false,if_true,Bool.not_true,Bool.not_false,Bool.false_and,Bool.true_and];rw[oN d1 (by omega),oN d2 (by omega)];simp only[Option.bind_some,Bool.false_eq_true,if_false,if_true,Bool.not_true,Bool.not_false,Bool.false_and,Bool.true_and];rw[qR];by_cases h0:kN a=0
    ·rw[if_pos (decide_eq_true h0),if_pos h0];rfl
    ·rw[if_neg (by simpa using h0),if_neg h0];have hfin:=zd neg _ _ h0 (qv d1 (by omega)) (qv d2 (by omega));exact hfin
theorem EM(s:List UInt8)(hs:s.length<=9223372036854775807):th s=some (rp (wS s).1,(wS s).2):=by
 unfold th wS;by_cases h:1000<s.length
 ·rw[if_pos (decide_eq_true (by omega)),if_pos h];rfl
 ·rw[if_neg (by simp;omega),if_neg h,yV s (by omega),EJ];by_cases hm:s.head?=some 45
  ·rw[if_pos hm,if_pos hm];simp only[Option.bind_some];exact v_ true (s.drop 1) (by rw[List.length_drop];omega)
  ·rw[if_neg hm,if_neg hm];simp only[Option.bind_some];exact v_ false s (by omega)
def sM(s:List UInt8):Option (Rat×Int):=cj (s.length<=9223372036854775807) (some (wS s))
theorem wP{a1:List UInt8}{r2:Rat}{r3:Int}(h:sM a1=some (r2,r3)):bf PP 23 [] [cu a1] [] (D.ig [qD r2,D.int .i64 r3]):=by
 obtain⟨h0,h⟩:=av h;have e:=EM a1 h0;injection h with h;rw[h]at e;exact Gh e
end Go.Am
namespace Go.Am
open Go.RowKit
end Go.Am
namespace Go.Am
open Go.RowKit
set_option maxRecDepth 100000
noncomputable section
def oe(a1:Rat)(a2:Rat)(a3:Rat):Option Rat:=(ks a2 a1).bind fun v4=>(Ba v4).bind fun v6=>(ks a3 a1).bind fun v8=>(Ba v8).bind fun v10=>(lJ v6 v10).bind fun v12=>((if(v12==0)=true then(uQ a2).bind fun v17=>(uQ a3).bind fun v19=>(lJ v17 v19).bind fun v21=>some (v21)else some (v12))).bind fun v23=>((if(decide (v23<0))=true then some (Ex.ret a2)else(if(v23==0)=true then(lJ a2 a3).bind fun v28=>(if(decide (v28<0))=true then some (Ex.ret a2)else some (Ex.cd ()))else some (Ex.cd ())))).bind fun o24=>(match o24 with|Ex.cd ()=>some a3|Ex.ret r31=>some r31)
theorem Ea{a1:Rat}{a2:Rat}{a3:Rat}{r32:Rat}(h:oe a1 a2 a3=some r32):bf PP 165 [] [qD a1,qD a2,qD a3] [] (qD r32):=by
 unfold oe at h;refine .of Go.Proofs.Tryz.func165 rfl (by kernel_rfl) rfl rfl rfl rfl rfl rfl (fun A w0 L b=>?_);show Ok PP _ [(0,qD a1),(1,qD a2),(2,qD a3)] [] _ _;refine .al (.iP rfl rfl<|.iP rfl rfl<|.iP rfl rfl<|.fN (qC (0)) aI ⟨lY,lZ,l4,trivial⟩ rfl<|.nil) rfl ?_;obtain⟨v4,e5,h⟩:=bind_some h;obtain⟨v6,e7,h⟩:=bind_some h;obtain⟨v8,e9,h⟩:=bind_some h;obtain⟨v10,e11,h⟩:=bind_some h;obtain⟨v12,e13,h⟩:=bind_some h;refine .cZ cf (.ck (qC (a2)) rfl rfl ae rfl rfl<|.ck (qC (a1)) rfl rfl ae rfl rfl<|.ag (rX e5) ⟨rfl,rfl,trivial⟩ trivial trivial<|.ag (GY e7) ⟨rfl,trivial⟩ trivial trivial<|.ck (qC (a3)) rfl rfl ae rfl rfl<|.ck (qC (a1)) rfl rfl ae rfl rfl<|.ag (rX e9) ⟨rfl,rfl,trivial⟩ trivial trivial<|.ag (GY e11) ⟨rfl,trivial⟩ trivial trivial<|.ag (vY e13) ⟨rfl,rfl,trivial⟩ trivial trivial<|.aq rfl<|.nil) rfl (by kernel_rfl) ?_;obtain⟨v23,hp15,h⟩:=bind_some h;refine .cc (fun i=>v23=i) (fun(i:Int)=>[(4,D.ref 4 0),(5,D.ref 5 0),(6,D.ref 6 0),(7,D.int .i64 i)]) (fun(i:Int)=>[(4,Hp.box 28 (qC (a2))),(5,Hp.box 28 (qC (a3))),(6,Hp.box 28 (qC (0)))]) ?_ ?_
 ·have ho1:=h;have h:=hp15;refine .al (.mv rfl<|.cm rfl rfl rfl<|.nil) rfl ?_;by_cases c16:(v12==0)=true
  ·replace h:=ab c16 h;refine .cl rfl c16 ?_;obtain⟨v17,e18,h⟩:=bind_some h;obtain⟨v19,e20,h⟩:=bind_some h;obtain⟨v21,e22,h⟩:=bind_some h;refine .c_ cf (.ck (qC (a2)) rfl rfl ae rfl rfl<|.ag (Dl e18) ⟨rfl,trivial⟩ trivial trivial<|.ck (qC (a3)) rfl rfl ae rfl rfl<|.ag (Dl e20) ⟨rfl,trivial⟩ trivial trivial<|.ag (vY e22) ⟨rfl,rfl,trivial⟩ trivial trivial<|.aq rfl<|.nil) rfl (by kernel_rfl) (fun _ _ hs=>⟨v21,(sj h),hs.sub (.of rfl) (.of rfl) rfl rfl⟩)
  ·replace h:=aa c16 h;refine .cq rfl c16 ?_;refine .skip (fun _ _ hs=>⟨v12,(sj h),hs.sub (.of rfl) (.of rfl) rfl rfl⟩)
 ·rintro _ rfl
  try dsimp only
  obtain⟨o24,hp25,h⟩:=bind_some h;refine .cc (fun i=>o24=Ex.cd i) (fun(i:Unit)=>[(5,D.ref 5 0),(6,D.ref 6 0)]) (fun(i:Unit)=>[(5,Hp.box 28 (qC (a3))),(6,Hp.box 28 (qC (0)))]) ?_ ?_
  ·have ho1:=h;have h:=hp25;by_cases c26:(decide (v23<0))=true
   ·replace h:=ab c26 h;refine .al (.mv rfl<|.cm rfl rfl rfl<|.mv rfl<|.gk c26<|.gk c26<|.gk c26<|.gu<|.gu<|.gu<|.gu<|.gk c26<|.aX rfl c26 rfl<|.nil) rfl ?_;refine .cl rfl rfl ?_;refine .al (.ck (qC (a2)) rfl rfl ae rfl rfl<|.cU (qC (a2)) rfl rfl rfl ae rfl rfl rfl<|.nil) rfl ?_;cases h;have h:=ho1;cases h;refine .aO (fun _ _ hb=>hb) rfl (.cons (.agg rfl rfl ae rfl) .nil) (.refl _) trivial trivial
   ·replace h:=aa c26 h;by_cases c27:(v23==0)=true
    ·replace h:=ab c27 h;obtain⟨v28,e29,h⟩:=bind_some h;refine .al (.mv rfl<|.cm rfl rfl rfl<|.mv rfl<|.gz c26<|.mv rfl<|.gz c26<|.cm rfl rfl rfl<|.gz c26<|.mv rfl<|.gy c27<|.ck (qC (a2)) rfl rfl ae rfl rfl<|.gy c27<|.ck (qC (a3)) rfl rfl ae rfl rfl<|.gy c27<|.ag (vY e29) ⟨rfl,rfl,trivial⟩ trivial trivial<|.gy c27<|.cm rfl rfl rfl<|.gz c26<|.aX rfl c27 rfl<|.aT rfl c26 rfl<|.nil) rfl ?_;by_cases c30:(decide (v28<0))=true
     ·replace h:=ab c30 h;refine .cl rfl c30 ?_;refine .al (.ck (qC (a2)) rfl rfl ae rfl rfl<|.cU (qC (a2)) rfl rfl rfl ae rfl rfl rfl<|.nil) rfl ?_;cases h;have h:=ho1;cases h;refine .aO (fun _ _ hb=>hb) rfl (.cons (.agg rfl rfl ae rfl) .nil) (.refl _) trivial trivial
     ·replace h:=aa c30 h;refine .cq rfl c30 ?_;refine .skip (fun _ _ hs=>⟨(),(sj h),hs.sub (.of rfl) (.of rfl) rfl rfl⟩)
    ·replace h:=aa c27 h;refine .al (.mv rfl<|.cm rfl rfl rfl<|.mv rfl<|.gz c26<|.mv rfl<|.gz c26<|.cm rfl rfl rfl<|.gz c26<|.mv rfl<|.gm c27<|.gm c27<|.gm c27<|.gm c27<|.gz c26<|.aT rfl c27 rfl<|.aT rfl c26 rfl<|.nil) rfl ?_;refine .cq rfl (by decide) ?_;refine .skip (fun _ _ hs=>⟨(),(sj h),hs.sub (.of rfl) (.of rfl) rfl rfl⟩)
  ·rintro⟨⟩ rfl
   try dsimp only
   refine .al (.ck (qC (a3)) rfl rfl ae rfl rfl<|.cU (qC (a3)) rfl rfl rfl ae rfl rfl rfl<|.nil) rfl ?_;cases h;refine .aO (fun _ _ hb=>hb) rfl (.cons (.agg rfl rfl ae rfl) .nil) (.refl _) trivial trivial
end
end Go.Am
namespace Go.Am
abbrev FR(l:Nat):Fence:=Fence.wide.inRound l
theorem Fb(P:Program)(l:Nat)(m:Machine):m.fenced P (FR l):=by
 have:=fenced_wide P m;exact this
theorem uc{P:Program}{l:Nat}{m m':Machine}:StepsIn (Machine.fenced P (FR l)) P m m'↔Steps P m m':=
 ⟨StepsIn.steps,fun h=>(StepsIn.of_steps h).mono fun m _=>Fb P l m⟩
theorem Em{P:Program}{l:Nat}{m m':Machine}{e:Ending}:ComesIn (Machine.fenced P (FR l)) P m m' e↔Comes P m m' e:=by
 cases e with
 |returned v=>exact uc
 |panicked chain=>exact uc
 |outgrown=>exact Iff.rfl
theorem Ew{l n:Nat}{P:Program}{f:FuncId}{args:Array Value}{w:World}{R:Ending->World->Prop}(h:Calls P f args w R):CallsIn (FR l) n P f args w R:=
 ⟨trivial,fun cs _=>let⟨e,w',fr,r,s,x⟩:=h cs;⟨e,w',fr,r,Em.2 s,x⟩⟩
theorem GK{l n:Nat}{P:Program}{row:String}{args:Array Value}{w:World}{R:Value->World->Prop}(h:Rows P row args w R):RowsIn (FR l) n P row args w R:=
 fun c cs _=>let⟨v,w',r,s⟩:=h c cs;⟨v,w',r,uc.2 s⟩
theorem FE{P:Program}{l n:Nat}{o:Oper}{a:Act}{next next':Act->World->Prop}{Q:Exit->Act->World->Prop}(hn:∀a w,next a w->next' a w):∀{r:Result Next},o.upon P a next Q r->o.uponIn (FR l) n P a next' Q r
 |.ok (.value v) w',h=>hn _ _ h
 |.ok .skip w',h=>hn _ _ h
 |.ok (.defer d) w',h=>hn _ _ h
 |.ok (.enter f args) w',h=>⟨fun hd=>(by simp[FR,Fence.wide]at hd),Ew (Calls.mono h fun e w'' hr=>by
   cases e with
   |returned v=>exact hn _ _ hr
   |panicked chain=>exact hr
   |outgrown=>exact hr)⟩
 |.ok (.row row args) w',h=>⟨fun hd=>(by simp[FR,Fence.wide]at hd),GK (Rows.mono h fun v w'' hr=>hn _ _ hr)⟩
 |.halt (.panic v) w',h=>h
 |.ok (.round ..) _,h=>h.elim
theorem uT{P:Program}{l n:Nat}{ops:Array Oper}{Q:Exit->Act->World->Prop}(hQ:¬LetsOut Q)(hd:∀(i:Nat) (o:Oper),ops[i]?=some o->∀c,o.op≠.defer c):∀(is:List Nat) (a:Act) (w:World),wpOps P ops Q is a w->wpOpsIn (FR l) n P ops Q is a w
 |[],a,w,h=>h
 |i::rest,a,w,h=>by
  unfold wpOps at h;unfold wpOpsIn;cases ho:ops[i]?with
  |none=>rw[ho]at h;exact uT hQ hd rest a w h
  |some o=>
   rw[ho]at h;simp only at h|-
   split
   ·rename_i hw;rw[if_pos hw]at h;rcases h with h|h
    ·refine⟨fun _ _=>trivial,?_⟩;rw[Oper.semAt_eq _ _ _ (hd i o ho)];exact FE (fun a w hk=>uT hQ hd rest a w hk) h
    ·exact absurd h.2 hQ
   ·rename_i hw;rw[if_neg hw]at h;exact⟨fun _ _=>trivial,uT hQ hd rest _ w h⟩
def jP(l:List Oper):Bool:=l.all fun o=>match o.op with|.defer _=>false|_=>true
theorem nX{l:List Oper}(h:jP l=true)(i:Nat)(o:Oper)(ho:l.toArray[i]?=some o):∀c,o.op≠.defer c:=by
 intro c hc;have hm:o∈l:=by rw[List.getElem?_toArray]at ho;exact List.mem_of_getElem? ho
 have:=List.all_eq_true.1 h o hm;rw[hc]at this;cases this
def mx(P:Program)(c:Ctx)(T:List (Nat×D))(H:List (Nat×Hp))(x:Code)(Q:Exit->Act->World->Prop):Prop:=
 ∀l n a w,Sat c (aW T) (ah H) a w->x.wpIn (FR l) n P Q a w
section
variable {P:Program} {c:Ctx} {T T':List (Nat×D)} {H H':List (Nat×Hp)} {Q:Exit->Act->World->Prop} {x y:Code} {id:Nat} {sps:List Spec}
theorem mx.region{l:List Oper}(hL:¬LetsOut Q)(hn:jP l=true)(h:an P l.toArray c l T H sps T' H')(hd:fD c.n l=true)(hQ:∀a w,Sat c (aW T') (ah H') a w->Q .normal a w):mx P c T H (.region id l.toArray false) Q:=by
 intro k n a w hs;refine wpIn_region (uT hL (nX hn) _ a w ?_);have h1:=h.wp hd hQ a w hs;have h2:=wpOps_eq_wpList (P:=P) (ops:=l.toArray) (Q:=Q) l 0 (by simp);rw[List.range_eq_range',show l.toArray.size=l.length from by simp,h2];exact h1
theorem mx.c_{l:List Oper}(hL:¬LetsOut Q)(hn:jP l=true)(hm:P.follows .mixedOrders=true)(h:an P l.toArray c l T H sps T' H')(hd:fD c.n l=true)(hord:n9 [] [] 0 (l.zip sps)=true)(hQ:∀a w,Sat c (aW T') (ah H') a w->Q .normal a w):mx P c T H (.region id l.toArray true) Q:=by
 intro k n a w hs;refine wpIn_region_draw fun t=>uT hL (nX hn) _ a _ ?_;simp only[Region.schedule,hm,Bool.true_or,if_true];exact wpAny_sound l.toArray.size t _ a _ (h.tB hd hord hQ a w hs)
theorem xk{K:Act->World->Prop}(h:¬LetsOut Q):¬LetsOut (Exit.then K Q):=h
theorem mx.seq{K:Act->World->Prop}(h:mx P c T H x (Exit.then K Q))(hy:∀l n a w,K a w->y.wpIn (FR l) n P Q a w):mx P c T H (.seq x y) Q:=
 fun l n a w hs=>wpIn_seq (wpIn_mono (h l n a w hs) (fun e a' w' q=>by cases e<;>first|exact q|exact hy _ _ _ _ q))
theorem mx.cZ{l:List Oper}(hL:¬LetsOut Q)(hn:jP l=true)(hm:P.follows .mixedOrders=true)(h:an P l.toArray c l T H sps T' H')(hd:fD c.n l=true)(hord:n9 [] [] 0 (l.zip sps)=true)(hy:mx P c T' H' y Q):mx P c T H (.seq (.region id l.toArray true) y) Q:=
 .seq (K:=fun a w=>Sat c (aW T') (ah H') a w) (mx.c_ (xk hL) hn hm h hd hord (fun _ _ hs=>hs)) (fun l n a w hs=>hy l n a w hs)
theorem mx.block(h:mx P c T H x (Exit.inBlock id Q)):mx P c T H (.block id x) Q:=fun l n a w hs=>wpIn_block (h l n a w hs)
theorem mx.exit(h:∀a w,Sat c (aW T) (ah H) a w->Q (.exit id) a w):mx P c T H (.exit id) Q:=fun _ _ a w hs=>wpIn_exit (h a w hs)
theorem mx.skip(h:∀a w,Sat c (aW T) (ah H) a w->Q .normal a w):mx P c T H .skip Q:=fun _ _ a w hs=>wpIn_skip (h a w hs)
theorem mx.cT{o:Operand}(h:ev T o=some (.bool true))(k:mx P c T H x Q):mx P c T H (.cond o x y) Q:=by
 intro l n a w hs;obtain⟨ε,φ,hs'⟩:=hs;exact wpIn_cond_true (hs'.ev (ay h).1 (ay h).2).1 (k l n a w ⟨ε,φ,hs'⟩)
theorem mx.cF{o:Operand}(h:ev T o=some (.bool false))(k:mx P c T H y Q):mx P c T H (.cond o x y) Q:=by
 intro l n a w hs;obtain⟨ε,φ,hs'⟩:=hs;exact wpIn_cond_false (hs'.ev (ay h).1 (ay h).2).1 (k l n a w ⟨ε,φ,hs'⟩)
theorem mx.sq(h:mx P c T H x (Exit.then (fun a w=>∀l n,y.wpIn (FR l) n P Q a w) Q)):mx P c T H (.seq x y) Q:=.seq h (fun l n _ _ k=>k l n)
end
end Go.Am
namespace Go.Am
open Go.RowKit
def Hp.obj(o:Obj):Hp where
 p:=fun _ w _ b F=>F=only (j6 b)/\w.heap[j6 b]?=some o
 nm:=[]
 mono:=fun⟨e,h⟩ _ _ hF=>⟨e,(hF _ (by rw[e];rfl)).trans h⟩
def Hp.caller(T:List (Nat×D))(tm:Array Value)(H:List (Nat×Hp)):Hp where
 p:=fun _ w S _ F=>∃(ε:Env) (φ:Nat->cV),(∀t d,aW T t=some d->d.p ε w S (tm.getD t undef))/\(∀r h,ah H r=some h->h.p ε w S (ε r) (φ r))/\
  (∀r r',ah H r≠none->ah H r'≠none->r≠r'->∀k,φ r k->¬φ r' k)/\(∀r,ah H r≠none->∀k,φ r k->F k)/\(∀k,F k->k<w.heap.size/\∃r,ah H r≠none/\φ r k)
 nm:=[]
 mono:=by
  rintro ε ε' w w' S S' b F ⟨ε1,φ1,h1,h2,h3,h4,h5⟩ _ hS hF;refine⟨ε1,φ1,fun t d ht=>d.mono (h1 t d ht) (fun _ _=>rfl) hS,fun r h hr=>h.mono (h2 r h hr) (fun _ _=>rfl) hS (fun k hk=>hF k (h4 r (by rw[hr];simp) k hk)),h3,h4,fun k hk=>⟨?_,(h5 k hk).2⟩⟩;have h6:=(h5 k hk).1;have h7:=hF k hk;rw[Array.getElem?_eq_getElem h6]at h7;exact(Array.getElem?_eq_some_iff.1 h7).1
def ptrTo(l:Nat):Value:=.pointer (some ⟨l,0,none⟩)
section
variable {P:Program}
theorem um{b:Env}{r:Nat}:∀{l:List Nat},r∈l->aW (pins b l) (1000000+r)=some (.pinned r (b r))
 |[],h=>by cases h
 |r0::l,h=>by
  simp only[pins,aW];cases hb:Nat.beq (1000000+r) (1000000+r0)with
  |true=>
   have:r=r0:=by have:=Nat.eq_of_beq_eq_true hb;omega
   subst this;rfl
  |false=>
   rcases List.mem_cons.1 h with rfl|h
   ·simp at hb
   ·exact um h
theorem zq{T:List (Nat×D)}{tm:Array Value}{H:List (Nat×Hp)}{A F:cV}{w:World}{b v:Value}{d:D}{p:Nat}{ε0':Env}(h:(Hp.caller T tm H).p ε0' w A b F)(hA:∀k,F k->¬A k)
  (hT:dg H (p_ T)=true)(hH:dg H (ky H)=true)(hd:d.nm=[])(hv:d.p ε0' w A v)(hp:p<tm.size):
  ∃β:Env,Sat ⟨A,w.heap.size,w,tm.size,F⟩ (aW ((p,d)::(T++pins β (names H)))) (ah H) {tmps:=tm.setIfInBounds p v,defers:=[]} w/\
   (∀t d,aW T t=some d->d.p β w A (tm.getD t undef)):=by
 obtain⟨ε,φ,h1,h2,h3,h4,h5⟩:=h;have hreg:∀k,A k->k<w.heap.size->al ⟨A,w.heap.size,w,tm.size,F⟩ (ah H) φ k/\w.heap[k]?=w.heap[k]?:=fun k hk _=>⟨⟨.inl hk,fun r hr hf=>hA k (h4 r hr k hf) hk⟩,rfl⟩;refine⟨ε,⟨ε,φ,?_⟩,h1⟩;have hs:cP ⟨A,w.heap.size,w,tm.size,F⟩ (aW (T++pins ε (names H))) (ah H) {tmps:=tm,defers:=[]} w ε φ:=by
  constructor
  ·intro t d' ht;rcases jg ht with ht|ht
   ·exact d'.mono (h1 t d' ht) (fun _ _=>rfl) hreg
   ·obtain⟨r,_,_,rfl⟩:=kt ht
    rfl
  ·intro t d' ht r hr;rcases jg ht with ht|ht
   ·exact dJ hT r (mZ ht r hr)
   ·obtain⟨r',hr',_,rfl⟩:=kt ht;have:r=r':=by simpa [D.pinned]using hr
    subst this;exact cG.2 hr'
  ·exact fun r y hy=>y.mono (h2 r y hy) (fun _ _=>rfl) hreg (fun _ _=>rfl)
  ·exact p6 hH
  ·exact fun r hr k hk=>⟨.inr (h4 r hr k hk),(h5 k (h4 r hr k hk)).1⟩
  ·exact h3
  ·exact .of (Below.refl _ _)
  ·rfl
  ·rfl
  ·rfl
 have:=hs.put (dst:=some p) (d:=d) (v:=v) (fun t ht=>by injection ht with ht;subst ht;exact hp) (d.mono hv (fun r hr=>by rw[hd]at hr;cases hr) hreg) (fun r hr=>by rw[hd]at hr;cases hr);rw[je]at this;exact this
theorem x4{T T':List (Nat×D)}{tm:Array Value}{H H':List (Nat×Hp)}{A F:cV}{w w':World}{β:Env}{a:Act}{n:Nat}(hT:dg H (p_ T)=true)(h0:∀t d,aW T t=some d->d.p β w A (tm.getD t undef))(hA:∀k,F k->¬A k)
  (hpin:jm T' (pins β (names H)))(hs:Sat ⟨A,w.heap.size,w,n,F⟩ (aW T') (ah H') a w'):
  ∃F',(Hp.caller T tm H').p ε0 w' (fun k=>(A k\/w.heap.size<=k\/F k)/\¬F' k) undef F'/\(∀k,F' k->(w.heap.size<=k\/F k)/\k<w'.heap.size)/\ow w.heap.size F w w':=by
 obtain⟨ε,φ,hs⟩:=hs;have hpins:∀r∈names H,ε r=β r:=by
  intro r hr;obtain⟨d,hd,hle⟩:=nL hpin _ _ (um hr);exact hle.1 _ _ _ _ (hs.t _ _ hd)
 have hlo:∀k,(∃r,ah H' r≠none/\φ r k)->(w.heap.size<=k\/F k)/\k<w'.heap.size:=fun k ⟨r,hr,hf⟩=>hs.lo r hr k hf;have hreg:∀k,al ⟨A,w.heap.size,w,n,F⟩ (ah H') φ k->k<w'.heap.size->((A k\/w.heap.size<=k\/F k)/\¬(∃r,ah H' r≠none/\φ r k))/\w'.heap[k]?=w'.heap[k]?:=fun k hk _=>⟨⟨hk.1,fun⟨r,hr,hf⟩=>hk.2 r hr hf⟩,rfl⟩;refine⟨fun k=>∃r,ah H' r≠none/\φ r k,⟨ε,φ,?_,?_,hs.dj,fun r hr k hk=>⟨r,hr,hk⟩,fun k hk=>⟨(hlo k hk).2,hk⟩⟩,hlo,hs.su⟩
 ·intro t d ht;refine d.mono (h0 t d ht) (fun r hr=>hpins r ?_) (fun k hk hlt=>⟨⟨.inl hk,fun hf=>?_⟩,hs.su.block k hlt (fun hF=>hA k hF hk)⟩)
  ·exact cG.1 (dJ hT r (mZ ht r hr))
  ·rcases(hlo k hf).1 with h|h
   ·omega
   ·exact hA k h hk
 ·intro r h hr;exact h.mono (hs.h r h hr) (fun _ _=>rfl) hreg (fun _ _=>rfl)
def py{σ ρ:Type}:St σ ρ->Bool
 |.next _=>true
 |.done _=>false
def YR{σ ρ:Type}(T:List (Nat×D))(tm:Array Value)(C:St σ ρ->List (Nat×Hp))(st:St σ ρ)(A F:cV)(w:World):Ending->World->Prop:=
 fun e w'=>∃F':cV,e=.returned (.bool (py st))/\(Hp.caller T tm (C st)).p ε0 w' (fun k=>(A k\/w.heap.size<=k\/F k)/\¬F' k) undef F'/\(∀k,F' k->(w.heap.size<=k\/F k)/\k<w'.heap.size)/\ow w.heap.size F w w'
def rh(P:Program)(l:Nat){σ ρ α:Type}(T:List (Nat×D))(tm:Array Value)(C:St σ ρ->List (Nat×Hp))(dx:α->D)(step:σ->α->Option (St σ ρ)):Prop:=
 ∀s x st,step s x=some st->∀(A F:cV) (w:World) (v:Value),(∀k,F k->¬A k)->(Hp.caller T tm (C (.next s))).p ε0 w A undef F->(dx x).p ε0 w A v->
  ∃f tmps assign body,(Instr.yield l #[v]).run P w=.ok (.round l f tmps assign body) w/\∀n,RoundIn Fence.wide n P l f tmps assign body w (YR T tm C st A F w)
def ee(fn:FuncId)(tm:Array Value)(p:Nat)(assign body:Code)(dd:Nat)(st:LoopState)(pe:Option Code):Go.Loop:={state:=st,pending:=pe,fn,tmps:=tm,params:=#[p],assign,body,defers:=dd}
def n8{σ ρ:Type}(j:Nat):St σ ρ->Option Code
 |.next _=>none
 |.done _=>some (.exit j)
def stat{σ ρ:Type}:St σ ρ->LoopState
 |.next _=>.ready
 |.done _=>.done
def cA{σ ρ:Type}(rd dd:Nat)(o:Obj)(C:St σ ρ->List (Nat×Hp))(st:St σ ρ):List (Nat×Hp):=(rd,.obj o)::(dd,.obj (.deferred (some [])))::C st
def EB{σ ρ:Type}(c:Ctx)(j rd dd:Nat)(o:Obj)(C:St σ ρ->List (Nat×Hp))(β:Env)(bV:List Nat)(st:St σ ρ):Exit->Act->World->Prop
 |.normal,a,w=>(∃s,st=.next s)/\∃T',jm T' (pins β bV)/\Sat c (aW T') (ah (cA rd dd o C st)) a w
 |.exit id,a,w=>id=j/\(∃r,st=.done r)/\∃T',jm T' (pins β bV)/\Sat c (aW T') (ah (cA rd dd o C st)) a w
 |_,_,_=>False
theorem sU{c:Ctx}{T:List (Nat×D)}{H:List (Nat×Hp)}{a:Act}{w:World}{rd l:Nat}{o:Obj}(o':Obj)(hs:Sat c (aW T) (ah ((rd,.obj o)::H)) a w)(hp:∀ε φ,cP c (aW T) (ah ((rd,.obj o)::H)) a w ε φ->ε rd=ptrTo l):
  w.heap[l]?=some o/\Sat c (aW T) (ah ((rd,.obj o')::H)) a (w.putObj l o'):=by
 obtain⟨ε,φ,hs⟩:=hs;have h1:ah ((rd,Hp.obj o)::H) rd=some (.obj o):=by simp[ah]
 have hp:=hp ε φ hs;obtain⟨e1,e2⟩:=hs.h rd _ h1;have hb:j6 (ε rd)=l:=by rw[hp];rfl
 rw[hb]at e1 e2;have hlt:l<w.heap.size:=(Array.getElem?_eq_some_iff.1 e2).1;refine⟨e2,ε,φ,?_⟩;have h2:=hs.uE (w':=w.putObj l o') (y:=.obj o') h1 (by simp) rfl rfl rfl (fun k hk=>World.putObj_heap_other (fun e=>hk (by rw[e1,e];rfl))) ⟨by rw[hb];exact e1,by rw[hb];exact World.putObj_heap_same hlt⟩ (fun r hr=>by cases hr);have h3:bq (ah ((rd,Hp.obj o)::H)) [(rd,.obj o')]=ah ((rd,.obj o')::H):=by
  funext r
  simp only[bq,ah];cases Nat.beq r rd<;>rfl
 rw[h3]at h2;exact h2
theorem Az{c:Ctx}{T:List (Nat×D)}{H:Nat->Option Hp}{a:Act}{w:World}{β:Env}{bV:List Nat}{r:Nat}(hsub:jm T (pins β bV))(hr:r∈bV){v:Value}(hv:β r=v):∀ε φ,cP c (aW T) H a w ε φ->ε r=v:=by
 intro ε φ hs;obtain⟨d,hd,hle⟩:=nL hsub _ _ (um hr);exact(show ε r=β r from hle.1 _ _ _ _ (hs.t _ _ hd)).trans hv
theorem Ej{σ ρ α:Type}{l rd dd j p:Nat}{fn:FuncId}{tm:Array Value}{assign body:Code}{D0:Nat}{T:List (Nat×D)}{C:St σ ρ->List (Nat×Hp)}{dx:α->D}{step:σ->α->Option (St σ ρ)}{nmsC:List Nat}
  (hn:∀st,names (C st)=nmsC)(hrd:Nat.beq rd dd=false)(hTn:∀(o:Obj) st,dg (cA rd dd o C st) (p_ T)=true)(hHn:∀(o:Obj) st,dg (cA rd dd o C st) (ky (C st))=true)(hdx:∀x,(dx x).nm=[])(hp:p<tm.size)
  (pt:Nat)(hpt:aW T pt=some (.pinned rd (ptrTo l)))
  (Hx:α->List (Nat×Hp))(T1:(β:Env)->α->List (Nat×D))(hT1:∀β x,jm (T1 β x) (pins β (rd::dd::nmsC)))
  (ha:∀s x st,step s x=some st->∀A w0 L β,mx P ⟨A,w0.heap.size,w0,tm.size,L⟩ ((p,dx x)::(T++pins β (rd::dd::nmsC))) (cA rd dd (.loop (ee fn tm p assign body D0 .ready none)) C (.next s)) assign
   (Exit.then (fun a w=>Sat ⟨A,w0.heap.size,w0,tm.size,L⟩ (aW (T1 β x)) (ah (cA rd dd (.loop (ee fn tm p assign body D0 .ready none)) C (.next s)++Hx x)) a w) (fun _ _ _=>False)))
  (hb:∀s x st,step s x=some st->∀A w0 L β,mx P ⟨A,w0.heap.size,w0,tm.size,L⟩ (T1 β x) (cA rd dd (.loop (ee fn tm p assign body D0 .busy none)) C (.next s)++Hx x) body (EB ⟨A,w0.heap.size,w0,tm.size,L⟩ j rd dd (.loop (ee fn tm p assign body D0 .busy none)) C β (rd::dd::nmsC) st)):
  rh P l T tm (fun st=>cA rd dd (.loop (ee fn tm p assign body D0 (stat st) (n8 j st))) C st) dx step:=by
 intro s x st hst A F w v hA hcal hv;have hnames:∀(o:Obj) st,names (cA rd dd o C st)=rd::dd::nmsC:=fun o st=>by simp only[cA,names,hn]
 have hHall:∀(o:Obj) st,dg (cA rd dd o C st) (ky (cA rd dd o C st))=true:=fun o st=>by
  show dg (cA rd dd o C st) (ky (C st))=true;exact hHn o st
 obtain⟨β,hsat,h0⟩:=zq (d:=dx x) (v:=v) (p:=p) hcal hA (hTn _ _) (hHall _ _) (hdx x) hv hp;rw[hnames]at hsat
 -- the record
 have hl:w.heap[l]?=some (.loop (ee fn tm p assign body D0 .ready none)):=by
  obtain⟨ε,φ,h1,h2,_⟩:=hcal;have e1:ε rd=ptrTo l:=h1 pt _ hpt;have e2:=(h2 rd (.obj (.loop (ee fn tm p assign body D0 .ready none))) (by simp[cA,ah,stat,n8])).2;rw[e1]at e2;exact e2
 refine⟨fn,_,assign,body,?_,fun n=>roundIn_of_wpIn (tmps:=tm.setIfInBounds p v) trivial (wpIn_mono (ha s x st hst A w F β l n _ _ hsat) ?_)⟩
 ·have:=run_yield (P:=P) (args:=#[v]) hl rfl;rw[this];simp[ee]
 intro e a1 w1 hq
 cases e with
 |normal=>
  have hβ:β rd=ptrTo l:=h0 pt _ hpt;have hq':Sat ⟨A,w.heap.size,w,tm.size,F⟩ (aW (T1 β x)) (ah (cA rd dd (.loop (ee fn tm p assign body D0 .ready none)) C (.next s)++Hx x)) a1 w1:=hq;obtain⟨hl1,hS1⟩:=sU (.loop (ee fn tm p assign body D0 .busy none)) hq' (Az (hT1 β x) (by simp) hβ);refine⟨_,run_beginRound hl1 rfl,wpIn_mono (hb s x st hst A w F β l n _ _ hS1) ?_⟩;have fin:∀(a2:Act) (w2:World),(∃T',jm T' (pins β (rd::dd::nmsC))/\Sat ⟨A,w.heap.size,w,tm.size,F⟩ (aW T') (ah (cA rd dd (.loop (ee fn tm p assign body D0 .busy none)) C st)) a2 w2)->
    w2.heap[l]?=some (.loop (ee fn tm p assign body D0 .busy none))/\∃F':cV,(Hp.caller T tm (cA rd dd (.loop (ee fn tm p assign body D0 (stat st) (n8 j st))) C st)).p ε0 (w2.putObj l (.loop (ee fn tm p assign body D0 (stat st) (n8 j st)))) (fun k=>(A k\/w.heap.size<=k\/F k)/\¬F' k) undef F'/\
    (∀k,F' k->(w.heap.size<=k\/F k)/\k<(w2.putObj l (.loop (ee fn tm p assign body D0 (stat st) (n8 j st)))).heap.size)/\ow w.heap.size F w (w2.putObj l (.loop (ee fn tm p assign body D0 (stat st) (n8 j st)))):=by
   rintro a2 w2 ⟨T',hsub,hS⟩;obtain⟨hl2,hS2⟩:=sU (.loop (ee fn tm p assign body D0 (stat st) (n8 j st))) hS (Az hsub (by simp) hβ);refine⟨hl2,?_⟩;exact x4 (H:=cA rd dd (.loop (ee fn tm p assign body D0 .ready none)) C (.next s)) (hTn _ _) h0 hA (by rw[hnames];exact hsub) hS2
  intro e2 a2 w2 hq2
  cases e2 with
  |normal=>
   obtain⟨⟨s',rfl⟩,hq2⟩:=hq2;obtain⟨hl2,F',hf⟩:=fin a2 w2 hq2;exact⟨_,_,run_endRound (P:=P) none hl2,F',rfl,hf⟩
  |exit id=>
   obtain⟨rfl,⟨r,rfl⟩,hq2⟩:=hq2;obtain⟨hl2,F',hf⟩:=fin a2 w2 hq2;exact⟨_,_,run_endRound (P:=P) (some (.exit id)) hl2,F',rfl,hf⟩
  |_=>exact hq2.elim
 |_=>exact hq.elim
theorem qk{nc:Nat}{h:Hp}{r:Nat}{h':Hp}(e:ah [(nc,h)] r=some h'):r=nc/\h'=h:=by
 simp only[ah]at e
 cases hb:Nat.beq r nc with
 |true=>rw[hb]at e;injection e with e;exact⟨Nat.eq_of_beq_eq_true hb,e.symm⟩
 |false=>rw[hb]at e;cases e
theorem j5{nc:Nat}{h:Hp}{r:Nat}(e:ah [(nc,h)] r≠none):r=nc:=by
 cases hq:ah [(nc,h)] r with
 |none=>exact absurd hq e
 |some h'=>exact(qk hq).1
theorem BL{dst:Option Nat}{ty:TypeId}{pos:String}{aft:Array Edge}{l:Nat}{x y:Operand}{ats:Array TypeId}(a:Act)(w:World){v:Value}(hx:a.eval x=.func (.yield l) #[] #[])(hy:a.eval y=v):
  (execOp a.eval ⟨dst,.call {callee:=.value x,args:=#[y],argTypes:=ats},ty,pos,aft,none⟩).run P w=(Instr.yield l #[v]).run P w:=by
 simp only[execOp,resolve,hx,Deferred.ofValue,Sem.run_bind,Sem.run_pure,Result.andThen_ok,invoke];simp[hy]
theorem CN{σ ρ α:Type}{l:Nat}{T:List (Nat×D)}{tm:Array Value}{C:St σ ρ->List (Nat×Hp)}{dx:α->D}{step:σ->α->Option (St σ ρ)}(hY:rh P l T tm C dx step){s:σ}{x0:α}{st:St σ ρ}(hst:step s x0=some st)
  {c:Ctx}{T2:List (Nat×D)}{H2:List (Nat×Hp)}{x y:Operand}{nc n:Nat}(hx:ev T2 x=some (.lit (.func (.yield l) #[] #[])))(hy:ev T2 y=some (dx x0))(hdx:(dx x0).nm=[])(hH:ah H2 nc=some (.caller T tm (C (.next s))))
  {dst:Option Nat}{ty:TypeId}{pos:String}{aft:Array Edge}{ats:Array TypeId}(hdst:∀t,dst=some t->t<c.n){K:Act->World->Prop}{Q:Exit->Act->World->Prop}
  (hK:∀a' w',Sat c (aW (bw T2 dst (.bool (py st)))) (ah ((nc,.caller T tm (C st))::H2)) a' w'->K a' w'){a:Act}{w:World}(hs:Sat c (aW T2) (ah H2) a w):
  Oper.wpIn Fence.wide n P ⟨dst,.call {callee:=.value x,args:=#[y],argTypes:=ats},ty,pos,aft,none⟩ a w K Q:=by
 obtain⟨ε,φ,hs⟩:=hs;have ex:=(hs.ev (ay hx).1 (ay hx).2).1;have ey:=(hs.ev (ay hy).1 (ay hy).2).1;have hcal:=hs.h nc _ hH;have hHn:ah H2 nc≠none:=by rw[hH];simp
 obtain⟨f,tmps,assign,body,hrun,hround⟩:=hY s x0 st hst (al c (ah H2) φ) (φ nc) w (a.eval y) (fun k hk hr=>hr.2 nc hHn hk) hcal ((dx x0).mono ey (fun r hr=>by rw[hdx]at hr;cases hr) (fun k hk _=>⟨hk,rfl⟩));refine⟨fun _ _=>trivial,?_⟩;rw[Oper.semAt_eq _ _ _ (by intro c hc;cases hc),BL a w ex rfl,hrun];refine⟨fun hd=>by simp[Fence.wide]at hd,(hround (n-1)).mono ?_⟩;rintro e w' ⟨F',rfl,hp,hlo,hbel⟩;have hfn:dF φ nc F' nc=F':=au _ _ _;have hloan:∀k,oz [(nc,Hp.caller T tm (C (.next s)))] φ k↔φ nc k:=fun k=>⟨fun⟨r,hr,hf⟩=>by rw[←j5 hr];exact hf,fun hf=>⟨nc,by simp[ah],hf⟩⟩;obtain⟨ε1,φ1,hS⟩:=hs.back (T0:=aW T2) (Hi:=[(nc,.caller T tm (C (.next s)))]) (Ho:=[(nc,.caller T tm (C st))]) (d:=.bool (py st)) (v:=.bool (py st)) (dst:=dst) (ε':=ε) (φ':=dF φ nc F') (n:=0) (w':=w')
  (fun r h hr=>by obtain⟨rfl,rfl⟩:=qk hr;exact hH) (fun r ho hi=>by rw[j5 ho]at hi;simp[ah]at hi) (fun r h hr r' hr'=>by obtain⟨rfl,rfl⟩:=qk hr;cases hr') (fun r hr=>by cases hr) (fun r hr=>by rw[j5 hr];simp[ah]) (fun _ _=>rfl)
  ⟨rfl,fun r h hr=>by
   obtain⟨rfl,rfl⟩:=qk hr;rw[hfn];refine(Hp.caller T tm (C st)).mono (ε:=ε0) hp (fun r hr=>by cases hr) (fun k hk _=>⟨⟨?_,fun r' hr'=>?_⟩,rfl⟩) (fun _ _=>rfl)
   ·rcases hk.1 with h|h|h
    ·exact .inl h
    ·exact .inr (.inl h)
    ·exact .inr (.inr ((hloan k).2 h))
   ·rw[j5 hr',hfn];exact hk.2,
   fun r hr k hk=>by
   rw[j5 hr,hfn]at hk;exact⟨(hlo k hk).1.elim .inl (fun h=>.inr ((hloan k).2 h)),(hlo k hk).2⟩,
   fun r r' hr hr' hne=>absurd ((j5 hr).trans (j5 hr').symm) hne,
   ⟨hbel.os,hbel.tape,hbel.output,hbel.size,fun k hk hl=>hbel.block k hk (fun hf=>hl ((hloan k).2 hf))⟩⟩ hdst
 rw[je,bC]at hS;exact hK _ _ ⟨ε1,φ1,hS⟩
def mark(D:Nat):Deferred:={target:=.collected D,args:=#[]}
def mB(rd dd l b:Nat)(Tk:List (Nat×D)):List (Nat×D):=(2000000,.pinned rd (ptrTo l))::(2000001,.pinned dd (ptrTo b))::Tk
def AE{σ ρ:Type}(j:Nat):St σ ρ->Exit
 |.next _=>.normal
 |.done _=>.exit j
theorem Ok.Ij{σ ρ α:Type}{c:Ctx}{T:List (Nat×D)}{H:List (Nat×Hp)}{Q:Exit->Act->World->Prop}{g:Operand}{f:FuncId}{p:Nat}{assign body:Code}{rb tb j rd dd:Nat}{lb lb':List D}{C:St σ ρ->List (Nat×Hp)}{dx:α->D}{step:σ->α->Option (St σ ρ)}{s0:σ}{cU:St σ ρ}(Tk:List (Nat×D))(nmsC:List Nat)
  (hg:ev T g=some (.ry f [] [.ref rb 0]))(hok:pc P f=true)(hrb:ah H rb=some (.box tb lb))(hlb:bV lb=[])(hTk:∀t d,aW Tk t=some d->aW T t=some d)(hC:I_ (C (.next s0)) H)(hCb:ah (C (.next s0)) rb=none)(hrd:ah H rd=none)(hdd:ah H dd=none)(hne:Nat.beq rd dd=false)
  (hn:∀st,names (C st)=nmsC)(hTn:∀(l b:Nat) (o:Obj) st,dg (cA rd dd o C st) (p_ (mB rd dd l b Tk))=true)(hHn:∀(o:Obj) st,dg (cA rd dd o C st) (ky (C st))=true)(hdx:∀x,(dx x).nm=[])(hp:p<c.n)
  (hcall:∀(l b:Nat) (fn:FuncId) (tm:Array Value),rh P l (mB rd dd l b Tk) tm (fun st=>cA rd dd (.loop (ee fn tm p assign body b (stat st) (n8 j st))) C st) dx step->
   bf P f [(0,.box tb lb),(1,.caller (mB rd dd l b Tk) tm (cA rd dd (.loop (ee fn tm p assign body b (stat (.next s0:St σ ρ)) (n8 j (.next s0:St σ ρ)))) C (.next s0)))] [.lit (.func (.yield l) #[] #[]),.ref 0 0]
    [(0,.box tb lb'),(1,.caller (mB rd dd l b Tk) tm (cA rd dd (.loop (ee fn tm p assign body b (stat cU) (n8 j cU))) C cU))] .any)
  (Hx:α->List (Nat×Hp))(T1:(β:Env)->(l b:Nat)->α->List (Nat×D))(hT1:∀β l b x,jm (T1 β l b x) (pins β (rd::dd::nmsC)))
  (ha:∀(l b:Nat) (o:Obj) s x st,step s x=some st->∀A w0 L β,mx P ⟨A,w0.heap.size,w0,c.n,L⟩ ((p,dx x)::(mB rd dd l b Tk++pins β (rd::dd::nmsC))) (cA rd dd o C (.next s)) assign
   (Exit.then (fun a w=>Sat ⟨A,w0.heap.size,w0,c.n,L⟩ (aW (T1 β l b x)) (ah (cA rd dd o C (.next s)++Hx x)) a w) (fun _ _ _=>False)))
  (hb:∀(l b:Nat) (o:Obj) s x st,step s x=some st->∀A w0 L β,mx P ⟨A,w0.heap.size,w0,c.n,L⟩ (T1 β l b x) (cA rd dd o C (.next s)++Hx x) body (EB ⟨A,w0.heap.size,w0,c.n,L⟩ j rd dd o C β (rd::dd::nmsC) st))
  (hQ:∀(l b:Nat) (o:Obj) (a:Act) (w:World),a.defers=[mark b]->Sat c (aW (mB rd dd l b Tk)) (ah ((rd,.obj o)::(dd,.obj (.deferred (some [])))::C cU)) {a with defers:=[]} w->Q (AE j cU) a w):
  Ok P c T H (.rangeFunc g #[p] assign body) Q:=by
 rintro a w ⟨ε,φ,hs⟩;refine(wpIn_wide (n:=0)).1 (wpIn_rangeFunc (fun fn _=>?_));obtain⟨vs,us,eg,hvs,hus⟩:=(hs.ev (ay hg).1 (ay hg).2).1;obtain rfl:vs=[]:=List.eq_nil_of_length_eq_zero (aR hvs)
 match us,hus with
 |[u],hus=>
 have eu:u=.pointer (some ⟨j6 (ε rb),0,none⟩):=hus.1;have hrdd:rd≠dd:=fun e=>by subst e;simp at hne
 -- the two blocks
 have hs1:=hs.lF (r:=dd) (x:=.obj (.deferred (some []))) (b:=ptrTo w.heap.size) (F:=only w.heap.size) (w':=w.alloc (.deferred (some []))) hdd ((Below.refl _ _).alloc (Nat.le_refl _) _) (fun k hk=>by simp only[only]at hk;subst hk;simp) ⟨rfl,iY _ _⟩ (fun r hr=>by cases hr);have hs2:=hs1.lF (r:=rd) (x:=.obj (.loop (ee fn a.tmps p assign body w.heap.size .ready none))) (b:=ptrTo (w.heap.size+1)) (F:=only (w.heap.size+1)) (w':=(w.alloc (.deferred (some []))).alloc (.loop (ee fn a.tmps p assign body w.heap.size .ready none)))
  (by rw[bJ,aK _ _ hrdd];exact hrd) ((Below.refl _ _).alloc (Nat.le_refl _) _) (fun k hk=>by simp only[only]at hk;subst hk;simp) ⟨rfl,by have:=iY (w.alloc (.deferred (some []))) (.loop (ee fn a.tmps p assign body w.heap.size .ready none));rw[World.size_alloc]at this;exact this⟩ (fun r hr=>by cases hr)
 have eH:bq (bq (ah H) [(dd,.obj (.deferred (some [])))]) [(rd,.obj (.loop (ee fn a.tmps p assign body w.heap.size .ready none)))]=ah ((rd,.obj (.loop (ee fn a.tmps p assign body w.heap.size .ready none)))::(dd,.obj (.deferred (some [])))::H):=by
  rw[bC,bC];rfl
 rw[eH]at hs2;generalize hε1:dF (dF ε dd (ptrTo w.heap.size)) rd (ptrTo (w.heap.size+1))=ε1 at hs2;generalize hφ1:dF (dF φ dd (only w.heap.size)) rd (only (w.heap.size+1))=φ1 at hs2;generalize hW:(w.alloc (.deferred (some []))).alloc (.loop (ee fn a.tmps p assign body w.heap.size .ready none))=W at hs2;have erd:ε1 rd=ptrTo (w.heap.size+1):=by rw[←hε1,au]
 have edd:ε1 dd=ptrTo w.heap.size:=by rw[←hε1,aK _ _ (Ne.symm hrdd),au]
 have hrbd:rb≠dd:=fun e=>by subst e;rw[hrb]at hdd;cases hdd
 have hrbr:rb≠rd:=fun e=>by subst e;rw[hrb]at hrd;cases hrd
 have erb:ε1 rb=ε rb:=by rw[←hε1,aK _ _ hrbr,aK _ _ hrbd]
 obtain⟨HA,hHA⟩:∃HA,HA=(rd,Hp.obj (.loop (ee fn a.tmps p assign body w.heap.size .ready none)))::(dd,Hp.obj (.deferred (some [])))::H:=⟨_,rfl⟩;rw[←hHA]at hs2;obtain⟨H1,hH1⟩:∃H1,H1=cA rd dd (.loop (ee fn a.tmps p assign body w.heap.size .ready none)) C (.next s0):=⟨_,rfl⟩;have hbeq:∀{x y:Nat},x≠y->Nat.beq x y=false:=fun{x y} h=>by
  cases hq:Nat.beq x y with
  |false=>rfl
  |true=>exact absurd (Nat.eq_of_beq_eq_true hq) h
 -- the caller's blocks are the state's own
 have hin1:∀r h,ah H1 r=some h->ah HA r=some h:=by
  intro r h hr;rw[hH1]at hr;rw[hHA];simp only[cA,ah]at hr|-
  cases hq:Nat.beq r rd with
  |true=>rw[hq]at hr;exact hr
  |false=>
   rw[hq]at hr
   cases hq2:Nat.beq r dd with
   |true=>rw[hq2]at hr;exact hr
   |false=>rw[hq2]at hr;exact hC r h hr
 have hin1n:∀r,ah H1 r≠none->ah HA r≠none:=fun r hr=>by
  cases hq:ah H1 r with
  |none=>exact absurd hq hr
  |some h=>rw[hin1 r h hq];simp
 have hrb1:ah HA rb=some (.box tb lb):=by rw[hHA];simp only[ah,hbeq hrbr,hbeq hrbd];exact hrb
 have hrb1n:ah HA rb≠none:=by rw[hrb1];simp
 have hrbn1:∀r,ah H1 r≠none->rb≠r:=by
  intro r hr e;subst e;rw[hH1]at hr;simp only[cA,ah,hbeq hrbr,hbeq hrbd]at hr;exact hr hCb
 have hTk1:∀t d,aW (mB rd dd (w.heap.size+1) w.heap.size Tk) t=some d->d.p ε1 W (Am.al c (ah HA) φ1) (a.tmps.getD t undef):=by
  intro t d ht;simp only[mB,aW]at ht
  cases hq:Nat.beq t 2000000 with
  |true=>rw[hq]at ht;injection ht with ht;subst ht;exact erd
  |false=>
   rw[hq]at ht
   cases hq2:Nat.beq t 2000001 with
   |true=>rw[hq2]at ht;injection ht with ht;subst ht;exact edd
   |false=>rw[hq2]at ht;exact hs2.t t d (hTk t d ht)
 have hsz:a.tmps.size=c.n:=hs.sz;have hY:rh P (w.heap.size+1) (mB rd dd (w.heap.size+1) w.heap.size Tk) a.tmps (fun st=>cA rd dd (.loop (ee fn a.tmps p assign body w.heap.size (stat st) (n8 j st))) C st) dx step:=
  Ej hn hne (hTn _ _) hHn hdx (by rw[hsz];exact hp) 2000000 rfl Hx (fun β x=>T1 β (w.heap.size+1) w.heap.size x) (fun β x=>hT1 β _ _ x) (fun s x st hst A w0 L β=>by rw[hsz];exact ha _ _ _ s x st hst A w0 L β) (fun s x st hst A w0 L β=>by rw[hsz];exact hb _ _ _ s x st hst A w0 L β)
 have hc:=hcall _ _ fn a.tmps hY;refine⟨w.heap.size+1,[mark w.heap.size],W,{target:=.fn (.func f) #[u],args:=#[.func (.yield (w.heap.size+1)) #[] #[]]},W,f,#[.func (.yield (w.heap.size+1)) #[] #[],u],W,?_,?_,fun _ _=>trivial,?_,fun hd=>by simp[Fence.wide]at hd,callsIn_wide.2 ?_⟩
 ·rw[←hW];exact run_enterLoop_outer _ _ _ _ _
 ·simp only[resolve,eg];simp[go_sem]
 ·have hok':=hok;unfold pc at hok';cases hf:P.funcs[f]?with
  |none=>simp[hf]at hok'
  |some fn'=>
   simp only[hf,Bool.and_eq_true,Bool.not_eq_true']at hok';have hbn:fn'.body.isNone=false:=by cases h:fn'.body<;>simp_all
   simp only[invoke,callFunc,Sem.run_bind,run_program,Result.andThen_ok,hf,hok'.1,Bool.false_eq_true,if_false,hbn];simp
 -- the call
 let ε2:Env:=fun r=>if r=0 then ε1 rb else undef
 let F1:cV:=fun k=>∃r,ah H1 r≠none/\φ1 r k
 let φ2:Nat->cV:=fun r=>if r=0 then φ1 rb else F1
 have hget2:∀{x y:Hp} {r:Nat} {h:Hp},ah [(0,x),(1,y)] r=some h->(r=0/\h=x)\/(r=1/\h=y):=by
  intro x y r h hr;simp only[ah]at hr
  cases hq:Nat.beq r 0 with
  |true=>rw[hq]at hr;injection hr with hr;exact .inl ⟨Nat.eq_of_beq_eq_true hq,hr.symm⟩
  |false=>
   rw[hq]at hr
   cases hq2:Nat.beq r 1 with
   |true=>rw[hq2]at hr;injection hr with hr;exact .inr ⟨Nat.eq_of_beq_eq_true hq2,hr.symm⟩
   |false=>rw[hq2]at hr;cases hr
 have hget2n:∀{x y:Hp} {r:Nat},ah [(0,x),(1,y)] r≠none->r=0\/r=1:=by
  intro x y r hr
  cases hq:ah [(0,x),(1,y)] r with
  |none=>exact absurd hq hr
  |some h=>exact(hget2 hq).imp (·.1) (·.1)
 refine(hc.calls (Am.al c (ah HA) φ1) W ε2 φ2 [.func (.yield (w.heap.size+1)) #[] #[],u] ?_ ?_ ?_ ⟨rfl,?_,trivial⟩).mono ?_
 ·intro r hr k hk;rcases hget2n hr with rfl|rfl
  ·exact⟨fun h=>h.2 rb hrb1n hk,(hs2.lo rb hrb1n k hk).2⟩
  ·obtain⟨r,hr,hf⟩:=hk;exact⟨fun h=>h.2 r (hin1n r hr) hf,(hs2.lo r (hin1n r hr) k hf).2⟩
 ·intro r r' hr hr' hne' k hk hk';rcases hget2n hr with rfl|rfl<;>rcases hget2n hr' with rfl|rfl
  ·exact hne' rfl
  ·obtain⟨r,hr,hf⟩:=hk';exact hs2.dj rb r hrb1n (hin1n r hr) (hrbn1 r hr) k hk hf
  ·obtain⟨r,hr,hf⟩:=hk;exact hs2.dj rb r hrb1n (hin1n r hr) (hrbn1 r hr) k hk' hf
  ·exact hne' rfl
 ·intro r h hr;rcases hget2 hr with⟨rfl,rfl⟩|⟨rfl,rfl⟩
  ·exact(Hp.box tb lb).mono (hs2.h rb _ hrb1) (fun r hr=>by rw[show(Hp.box tb lb).nm=bV lb from rfl,hlb]at hr;cases hr) (fun _ hk _=>⟨hk,rfl⟩) (fun _ _=>rfl)
  ·refine⟨ε1,φ1,hTk1,?_,?_,fun r hr k hk=>?_,fun k ⟨r,hr,hf⟩=>?_⟩
   ·exact fun r h hr=>hs2.h r h (hin1 r h (by rw[hH1];exact hr))
   ·exact fun r r' hr hr'=>hs2.dj r r' (hin1n r (by rw[hH1];exact hr)) (hin1n r' (by rw[hH1];exact hr'))
   ·exact⟨r,by rw[hH1];exact hr,hk⟩
   ·exact⟨(hs2.lo r (hin1n r hr) k hf).2,r,by rw[hH1]at hr;exact hr,hf⟩
 ·show u=_;rw[eu];show _=Value.pointer (some ⟨j6 (ε1 rb),0,none⟩);rw[erb]
 rintro e w3 ⟨v,ε',φ',rfl,hε',_,hp',hlo',hdj',hbel'⟩;obtain⟨ε3,φ3,k1,k2,k3,k4,k5⟩:=hp' 1 _ rfl;have hloan:∀k,oz [(0,Hp.box tb lb),(1,Hp.caller (mB rd dd (w.heap.size+1) w.heap.size Tk) a.tmps (cA rd dd (.loop (ee fn a.tmps p assign body w.heap.size (stat (.next s0:St σ ρ)) (n8 j (.next s0:St σ ρ)))) C (.next s0)))] φ2 k->c.base<=k\/c.L k:=by
  rintro k ⟨r,hr,hf⟩;rcases hget2n hr with rfl|rfl
  ·exact(hs2.lo rb hrb1n k hf).1
  ·obtain⟨r,hr,hf⟩:=hf;exact(hs2.lo r (hin1n r hr) k hf).1
 have hF1:∀k,φ' 1 k->(c.base<=k\/c.L k)/\k<w3.heap.size:=fun k hk=>by
  have:=hlo' 1 (by simp[ah]) k hk;refine⟨?_,this.2⟩;rcases this.1 with h|h
  ·exact .inl (Nat.le_trans hs2.hZ h)
  ·exact hloan k h
 have hregE:∀{HE:List (Nat×Hp)},(∀r,ah HE r≠none->∀k,φ3 r k->φ' 1 k)->∀k,Am.al ⟨Am.al c (ah HA) φ1,W.heap.size,W,0,oz [(0,Hp.box tb lb),(1,Hp.caller (mB rd dd (w.heap.size+1) w.heap.size Tk) a.tmps (cA rd dd (.loop (ee fn a.tmps p assign body w.heap.size (stat (.next s0:St σ ρ)) (n8 j (.next s0:St σ ρ)))) C (.next s0)))] φ2⟩ (ah [(0,.box tb lb'),(1,.caller (mB rd dd (w.heap.size+1) w.heap.size Tk) a.tmps (cA rd dd (.loop (ee fn a.tmps p assign body w.heap.size (stat cU) (n8 j cU))) C cU))]) φ' k->
   Am.al c (ah HE) φ3 k:=by
  intro HE hHE k ⟨h1,h2⟩;refine⟨?_,fun r hr hf=>h2 1 (by simp[ah]) (hHE r hr k hf)⟩;rcases h1 with h|h|h
  ·exact h.1
  ·exact .inr (.inl (Nat.le_trans hs2.hZ h))
  ·exact .inr (hloan k h)
 have hS:Sat c (aW (mB rd dd (w.heap.size+1) w.heap.size Tk)) (ah (cA rd dd (.loop (ee fn a.tmps p assign body w.heap.size (stat cU) (n8 j cU))) C cU)) a w3:=by
  refine⟨ε3,φ3,?_⟩
  constructor
  ·exact fun t d ht=>d.mono (k1 t d ht) (fun _ _=>rfl) (fun k hk _=>⟨hregE k4 k hk,rfl⟩)
  ·exact fun t d ht r hr=>dJ (hTn _ _ _ _) r (mZ ht r hr)
  ·exact fun r h hr=>h.mono (k2 r h hr) (fun _ _=>rfl) (fun k hk _=>⟨hregE k4 k hk,rfl⟩) (fun _ _=>rfl)
  ·exact p6 (by
    show dg _ (ky (C cU))=true;exact hHn _ _)
  ·exact fun r hr k hk=>hF1 k (k4 r hr k hk)
  ·exact k3
  ·refine hs2.su.trans ⟨hbel'.os,hbel'.tape,hbel'.output,hbel'.size,fun k hk hl=>hbel'.block k (Nat.lt_of_lt_of_le hk hs2.hZ) (fun hf=>?_)⟩;rcases hloan k hf with h|h
   ·omega
   ·exact hl h
  ·exact hs.bs
  ·exact hs.sz
  ·exact hs.df
 obtain⟨hl3,hS4⟩:=sU (.loop {ee fn a.tmps p assign body w.heap.size (stat cU) (n8 j cU)with state:=.exhausted}) hS (fun ε φ hs=>hs.t 2000000 _ rfl);refine⟨n8 j cU,_,run_endLoop (P:=P) hl3 (by cases cU<;>simp[ee,stat]),?_⟩;have hdf:a.defers=[]:=hs.df;have hfin:=hQ (w.heap.size+1) w.heap.size _ {a with defers:=[mark w.heap.size]++a.defers} _ (by simp[hdf]) (by
  have e1:({({a with defers:=[mark w.heap.size]++a.defers}:Act)with defers:=[]}:Act)=a:=by
   cases a;simp only at hdf;subst hdf;rfl
  rw[e1];exact hS4)
 cases cU with
 |next s=>exact hfin
 |done r=>exact wpIn_exit hfin
def GW(P:Program)(ds:List Deferred)(c:Ctx)(T:List (Nat×D))(H:List (Nat×Hp))(x:Code)(Q:Exit->Act->World->Prop):Prop:=
 ∀a w,a.defers=ds->Sat c (aW T) (ah H) {a with defers:=[]} w->x.wp P Q a w
theorem pF(a:Act)(xs:List Deferred)(dst:Option Nat)(v:Value):({a with defers:=xs}:Act).put dst v={a.put dst v with defers:=xs}:=by cases dst<;>rfl
theorem Gg{o:Oper}{a:Act}{xs ds:List Deferred}{next next':Act->World->Prop}{S:Act->World->Prop}{Q':Exit->Act->World->Prop}(hn:∀(b:Act) (ys:List Deferred) (w:World),next {b with defers:=ys} w->next' {b with defers:=ys++ds} w):∀{r:Result Next},o.upon P {a with defers:=xs} next (fun e a w=>e=.normal/\S a w) r->o.upon P {a with defers:=xs++ds} next' Q' r
 |.ok (.value v) w',h=>by
  rw[Oper.upon_value,pF]at*;exact hn _ _ _ h
 |.ok .skip w',h=>by
  rw[Oper.upon_skip,pF]at*;exact hn _ _ _ h
 |.ok (.defer d) w',h=>by
  rw[Oper.upon_defer]at*;exact(pF a (d::(xs++ds)) o.dst undef)▸hn (a.put o.dst undef) (d::xs) w' ((pF a (d::xs) o.dst undef)▸h)
 |.ok (.enter f args) w',h=>Calls.mono h fun e w'' hr=>by
   cases e with
   |returned v=>
    simp only at hr|-;rw[pF]at*;exact hn _ _ _ hr
   |panicked chain=>exact absurd hr.1 (by simp)
   |outgrown=>obtain⟨a,w,he,_⟩:=hr;cases he
 |.ok (.row row args) w',h=>Rows.mono h fun v w'' hr=>by
   rw[pF]at*;exact hn _ _ _ hr
 |.halt (.panic v) w',h=>absurd h.1 (by simp)
 |.ok (.round ..) _,h=>h.elim
theorem xg{ds:List Deferred}{ops:Array Oper}{S:Act->World->Prop}:∀(is:List Nat) (xs:List Deferred) (a:Act) (w:World),
  wpOps P ops (fun e a w=>e=.normal/\S a w) is {a with defers:=xs} w->wpOps P ops (fun e a w=>e=.normal/\∃ys,a.defers=ys++ds/\S {a with defers:=ys} w) is {a with defers:=xs++ds} w
 |[],xs,a,w,h=>⟨h.1,xs,rfl,h.2⟩
 |i::rest,xs,a,w,h=>by
  unfold wpOps at h|-;cases ho:ops[i]?with
  |none=>rw[ho]at h;exact xg rest xs a w h
  |some o=>
   rw[ho]at h;simp only at h|-
   split
   ·rename_i hw1;rw[if_pos hw1]at h;rcases h with h|h
    ·refine .inl ?_;unfold Oper.wp at h|-;have he:({a with defers:=xs}:Act).eval=({a with defers:=xs++ds}:Act).eval:=by funext x;cases x<;>rfl
     rw[he]at h;exact Gg (fun b ys w hk=>xg rest ys b w hk) h
    ·obtain⟨_,a,w,he,_⟩:=h;cases he
   ·rename_i hw1;rw[if_neg hw1]at h;rw[pF]at h|-;exact xg rest xs _ w h
theorem FA{ds:List Deferred}{ops:Array Oper}{c:Ctx}{T:List (Nat×D)}{H:List (Nat×Hp)}(is:List Nat)(a:Act)(w:World)(ha:a.defers=ds)
  (h:wpOps P ops (fun e a w=>e=.normal/\Sat c (aW T) (ah H) a w) is {a with defers:=[]} w):wpOps P ops (fun e a w=>e=.normal/\∃ys,a.defers=ys++ds/\Sat c (aW T) (ah H) {a with defers:=ys} w) is a w:=by
 have:=xg (ds:=ds) is [] a w h;have e:({a with defers:=[]++ds}:Act)=a:=by subst ha;rfl
 rw[e]at this;exact this
theorem mx.cl{c:Ctx}{T:List (Nat×D)}{H:List (Nat×Hp)}{Q:Exit->Act->World->Prop}{x y:Code}{o:Operand}{b:Bool}(h:ev T o=some (.bool b))(hb:b=true)(k:mx P c T H x Q):mx P c T H (.cond o x y) Q:=by subst hb;exact .cT h k
theorem mx.cq{c:Ctx}{T:List (Nat×D)}{H:List (Nat×Hp)}{Q:Exit->Act->World->Prop}{x y:Code}{o:Operand}{b:Bool}(h:ev T o=some (.bool b))(hb:¬b=true)(k:mx P c T H y Q):mx P c T H (.cond o x y) Q:=by
 have:b=false:=by simpa using hb
 subst this;exact .cF h k
theorem mx.on{c:Ctx}{T:List (Nat×D)}{H:List (Nat×Hp)}{Q:Exit->Act->World->Prop}{y:Code}(h:mx P c T H y Q):∀a w,Sat c (aW T) (ah H) a w->(Exit.then (fun a w=>∀l n,y.wpIn (FR l) n P Q a w) Q) .normal a w:=fun a w hs l n=>h l n a w hs
section
variable {ds:List Deferred} {c:Ctx} {T T':List (Nat×D)} {H H':List (Nat×Hp)} {Q:Exit->Act->World->Prop} {x y:Code} {id:Nat} {sps:List Spec}
theorem Ii{c:Ctx}{T:List (Nat×D)}{H:List (Nat×Hp)}{a:Act}{ys:List Deferred}{w:World}(h:a.defers=ys++ds)(hs:Sat c (aW T) (ah H) {a with defers:=ys} w):a.defers=ds/\Sat c (aW T) (ah H) {a with defers:=[]} w:=by
 obtain⟨ε,φ,hs0⟩:=hs;have:ys=[]:=hs0.df;subst this;exact⟨h,ε,φ,hs0⟩
theorem GW.c_{l:List Oper}(hm:P.follows .mixedOrders=true)(h:an P l.toArray c l T H sps T' H')(hd:fD c.n l=true)(hord:n9 [] [] 0 (l.zip sps)=true)(hQ:∀a w,a.defers=ds->Sat c (aW T') (ah H') {a with defers:=[]} w->Q .normal a w):GW P ds c T H (.region id l.toArray true) Q:=by
 intro a w ha hs;refine wp_mono (wp_region_draw (fun t=>FA (c:=c) (T:=T') (H:=H') _ a _ ha ?_)) ?_
 ·simp only[Region.schedule,hm,Bool.true_or,if_true];exact wpAny_sound l.toArray.size t _ _ _ (h.tB hd hord (Q:=fun e a w=>e=.normal/\Sat c (aW T') (ah H') a w) (fun a w hs=>⟨rfl,hs⟩) _ w hs)
 ·rintro e a w ⟨rfl,ys,h1,h2⟩;obtain⟨h3,h4⟩:=Ii h1 h2;exact hQ a w h3 h4
theorem GW.cZ{l:List Oper}(hm:P.follows .mixedOrders=true)(h:an P l.toArray c l T H sps T' H')(hd:fD c.n l=true)(hord:n9 [] [] 0 (l.zip sps)=true)(hy:GW P ds c T' H' y Q):GW P ds c T H (.seq (.region id l.toArray true) y) Q:=
 fun a w ha hs=>wp_seq (GW.c_ hm h hd hord (fun a w ha hs=>hy a w ha hs) a w ha hs)
theorem Sat.JX{fn:Func}{xs:List ResultVar}{dl:List D}{d:D}{Hi Ho:List (Nat×Hp)}{b:Nat->Value}{dd D0 n:Nat}{a:Act}{w:World}(hd:a.defers=[mark D0])(hs:Sat c (aW T) (ah ((dd,.obj (.deferred (some [])))::H)) {a with defers:=[]} w)
  (hpin:∀ε φ,cP c (aW T) (ah ((dd,.obj (.deferred (some [])))::H)) {a with defers:=[]} w ε φ->ε dd=ptrTo D0)(hx:fn.results=xs.toArray)(h:xB P c T ((dd,.obj (.deferred none))::H) xs dl)(hle:Le (C3 dl) d)(hT:jm T (pins b (names Hi)))(hH:l3 ((dd,.obj (.deferred none))::H) Ho):
  bodyPostM Fence.wide n P fn (By c Hi Ho b d) .ret a w:=by
 obtain⟨hD,hS⟩:=sU (.deferred none) hs hpin;obtain⟨_,v,hv,hR⟩:=Sat.aO hx h hle hT hH _ _ hS;show LeavesInM _ _ P fn a.tmps _ a.defers .returning w;rw[hd];exact⟨by simp,.inl ⟨D0,_,rfl,run_takeDeferred hD,v,hv,hR⟩⟩
theorem xX{fn:Func}{R:Ending->World->Prop}{n:Nat}:∀a w,bodyPost P fn R .ret a w->bodyPostM Fence.wide n P fn R .ret a w:=by
 rintro a w ⟨ha,v,hv,hR⟩;show LeavesInM _ _ P fn a.tmps _ a.defers .returning w;rw[ha];exact⟨v,hv,hR⟩
end
theorem bf.ofM{f:FuncId}{fn:Func}{x:Code}{Hi Ho:List (Nat×Hp)}{ds:List D}{d:D}(hf:P.funcs[f]?=some fn)(hb:fn.body=some x)(hok:pc P f=true)(hd:dg Hi (bV ds)=true)(hni:dg Hi (ky Hi)=true)(hno:dg Ho (ky Ho)=true)(hnr:dg Ho d.nm=true)(hk:dg Ho (names Hi)=true)
  (hl:Nat.ble ds.length fn.ntmps=true)(h:∀A w0 L b,Ok P ⟨A,w0.heap.size,w0,fn.ntmps,L⟩ (frame 0 ds++pins b (names Hi)) Hi x (bodyPostM Fence.wide 0 P fn (By ⟨A,w0.heap.size,w0,fn.ntmps,L⟩ Hi Ho b d))):bf P f Hi ds Ho d where
 ok:=hok
 HK:=hd
 IE:=hni
 HD:=hno
 F_:=hnr
 uq:=hk
 calls:=by
  intro A w ε φ vs hlo hdj hp hv;refine Calls.mono (callsIn_wide.1 (callsIn_of_wp_marks hf hb trivial (wpIn_wide.2 (h A w (oz Hi φ) ε _ _ ⟨ε,φ,?_⟩)))) (fun e w' ⟨v,ε',φ',e',hε,hB⟩=>⟨v,ε',φ',e',hε,hB⟩);have hlen:=aR hv;have hl':=Nat.le_of_ble_eq_true hl;have hreg:∀k,A k->k<w.heap.size->al ⟨A,w.heap.size,w,fn.ntmps,oz Hi φ⟩ (ah Hi) φ k/\w.heap[k]?=w.heap[k]?:=fun k hk _=>⟨⟨.inl hk,fun r hr hf=>(hlo r hr k hf).1 hk⟩,rfl⟩
  constructor
  ·intro t d' ht;rcases jg ht with ht|ht
   ·obtain⟨j,v,e,hj,hp,_⟩:=fW hv ht;have hjl:j<vs.length:=(List.getElem?_eq_some_iff.1 hj).1;have:(vs.toArray++Array.replicate (fn.ntmps-vs.toArray.size) undef).getD t undef=v:=by
     simp only[Nat.zero_add]at e;subst e;simp[Array.getD_eq_getD_getElem?,Array.getElem?_append,hjl];have:=(List.getElem?_eq_some_iff.1 hj).2;exact this
    rw[this];exact d'.mono hp (fun _ _=>rfl) hreg
   ·obtain⟨r,_,_,rfl⟩:=kt ht
    rfl
  ·intro t d' ht r hr;rcases jg ht with ht|ht
   ·obtain⟨_,_,_,_,_,hm⟩:=fW hv ht;exact dJ hd r (bZ.2 ⟨d',hm,hr⟩)
   ·obtain⟨r',hr',_,rfl⟩:=kt ht;have:r=r':=by simpa [D.pinned]using hr
    subst this;exact cG.2 hr'
  ·exact fun r y hy=>y.mono (hp r y hy) (fun _ _=>rfl) hreg (fun _ _=>rfl)
  ·exact p6 hni
  ·exact fun r hr k hk=>⟨.inr ⟨r,hr,hk⟩,(hlo r hr k hk).2⟩
  ·exact hdj
  ·exact .of (Below.refl _ _)
  ·rfl
  ·simp[hlen];omega
  ·rfl
end
end Go.Am
namespace Go.Am
end Go.Am
namespace Go.Am
def better(a c b:Rat):Prop:=jr (c-a)<jr (b-a)\/(jr (c-a)=jr (b-a)/\(c.den<b.den\/(c.den=b.den/\c<b)))
def Al(a:Rat)(n:Nat)(r:Rat):Prop:=r.den<=n/\∀y:Rat,y.den<=n->¬better a y r
theorem gI{a x y z:Rat}(h1:¬better a z y)(h2:¬better a y x):¬better a z x:=by
 unfold better at*;generalize jr (x-a)=u at*;generalize jr (y-a)=v at*;generalize jr (z-a)=w at*;generalize x.den=d at*;generalize y.den=e at*;generalize z.den=f at*
 grind
theorem pT(a x:Rat):¬better a x x:=by unfold better;grind
theorem xH{a x y:Rat}(h:better a x y):¬better a y x:=by
 unfold better at*;generalize jr (x-a)=u at*;generalize jr (y-a)=v at*;generalize x.den=d at*;generalize y.den=e at*
 grind
theorem z6{a x y:Rat}(h1:¬better a x y)(h2:¬better a y x):x=y:=by
 unfold better at*;generalize jr (x-a)=u at*;generalize jr (y-a)=v at*;generalize x.den=d at*;generalize y.den=e at*
 grind
theorem vP{a:Rat}{n:Nat}{r s:Rat}(h:Al a n r)(k:Al a n s):r=s:=z6 (k.2 r h.1) (h.2 s k.1)
theorem EY{a z l:Rat}(h:z<=l)(k:l<=a):¬better a z l:=by
 unfold better jr
 grind
theorem Ep{a z r:Rat}(h:r<=z)(k:a<=r):¬better a z r:=by
 unfold better jr
 grind
theorem Ax{m y:Int}{d q:Int}(hd:0<d)(hq:0<q):((y:Rat)/(q:Rat)<(m:Rat)/(d:Rat))↔y*d<m*q:=by
 have hd':(0:Rat)<(d:Rat):=by exact_mod_cast hd
 have hq':(0:Rat)<(q:Rat):=by exact_mod_cast hq
 rw[Rat.div_lt_iff hq',show(m:Rat)/(d:Rat)*(q:Rat)=((m:Rat)*(q:Rat))/(d:Rat)by grind,Rat.lt_div_iff hd']
 exact_mod_cast Iff.rfl
theorem sW(z:Rat):((z.num:Int):Rat)/(((z.den:Nat):Int):Rat)=z:=by
 have:=Rat.mkRat_self z;rw[Rat.mkRat_eq_div]at this;exact this
theorem Jk{l1 d1 r1 d2 most:Int}(h1:0<d1)(h2:0<d2)(hdet:r1*d1-l1*d2=1)(hm:most<d1+d2)(z:Rat)(hz:(z.den:Int)<=most):z<=(l1:Rat)/(d1:Rat)\/(r1:Rat)/(d2:Rat)<=z:=by
 by_cases c1:z<=(l1:Rat)/(d1:Rat)
 ·exact .inl c1
 by_cases c2:(r1:Rat)/(d2:Rat)<=z
 ·exact .inr c2
 exfalso
 have c1:=Rat.not_le.1 c1;have c2:=Rat.not_le.1 c2;have hzd:0<(z.den:Int):=by have:=z.den_nz;omega
 rw[←sW z]at c1 c2;rw[Ax hzd h1]at c1;rw[Ax h2 hzd]at c2;generalize (z.den:Int)=d at*;generalize z.num=m at*;have e1:1*d2<=(m*d1-l1*d)*d2:=Int.mul_le_mul_of_nonneg_right (by omega) (by omega);have e2:1*d1<=(r1*d-m*d2)*d1:=Int.mul_le_mul_of_nonneg_right (by omega) (by omega);have e3:(m*d1-l1*d)*d2+(r1*d-m*d2)*d1=d:=by
  have:(m*d1-l1*d)*d2+(r1*d-m*d2)*d1=d*(r1*d1-l1*d2):=by grind
  rw[this,hdet];omega
 omega
theorem zC{l d:Int}(h:0<d):(((l:Rat)/(d:Rat)).den:Int)<=d:=by
 obtain⟨n,rfl⟩:=Int.eq_ofNat_of_zero_le (Int.le_of_lt h);have e:((l:Rat)/(((n:Nat):Int):Rat))=mkRat l n:=by rw[Rat.mkRat_eq_div];rfl
 rw[e];have hn:n≠0:=by omega
 have:=j2 l n hn;omega
theorem Bp{a:Rat}{l1 d1 r1 d2 most:Int}(h1:0<d1)(h2:0<d2)(hd1:d1<=most)(hd2:d2<=most)(hdet:r1*d1-l1*d2=1)(hm:most<d1+d2)(ha:(l1:Rat)/(d1:Rat)<=a)(hb:a<=(r1:Rat)/(d2:Rat)){r:Rat}
  (hr:r=(l1:Rat)/(d1:Rat)\/r=(r1:Rat)/(d2:Rat))(k1:¬better a ((l1:Rat)/(d1:Rat)) r)(k2:¬better a ((r1:Rat)/(d2:Rat)) r):Al a most.toNat r:=by
 have e1:=zC (l:=l1) h1;have e2:=zC (l:=r1) h2;refine⟨by rcases hr with rfl|rfl<;>omega,fun y hy=>?_⟩;rcases Jk h1 h2 hdet hm y (by omega)with h|h
 ·exact gI (EY h ha) k1
 ·exact gI (Ep h hb) k2
theorem FN{x y:Rat}:iL x y<0↔x<y:=by unfold iL;grind
theorem BK{x y:Rat}:iL x y=0↔x=y:=by unfold iL;grind
theorem uF(a c b:Rat):closer a c b=true↔better a c b:=by
 unfold closer better fI;simp only[Bool.or_eq_true,Bool.and_eq_true,decide_eq_true_eq,beq_iff_eq,FN,BK];have h1:(if c.den<b.den then(-1:Int)else if b.den<c.den then 1 else 0)<0↔c.den<b.den:=by grind
 have h2:(if c.den<b.den then(-1:Int)else if b.den<c.den then 1 else 0)=0↔c.den=b.den:=by grind
 rw[h1,h2]
theorem uH(a:Rat)(n j:Nat)(b:Rat):¬better a b (l6 a n j b)/\¬better a (mkRat ((a*(n:Int)).floor+(j:Int)) n) (l6 a n j b)/\(l6 a n j b=b\/l6 a n j b=mkRat ((a*(n:Int)).floor+(j:Int)) n):=by
 unfold l6;by_cases h:closer a (mkRat ((a*(n:Int)).floor+(j:Int)) n) b=true
 ·rw[if_pos h];exact⟨xH ((uF _ _ _).1 h),pT _ _,.inr rfl⟩
 ·rw[if_neg h];exact⟨pT _ _,fun hb=>h ((uF _ _ _).2 hb),.inl rfl⟩
theorem uG(a:Rat):∀n:Nat,(nA a n).den<=max 1 n/\∀y:Rat,y.den<=n->¬better a y (nA a n)
 |0=>⟨by show((a.floor:Int):Rat).den<=1;rw[Rat.den_intCast];exact Nat.le_refl _,fun y hy=>absurd hy (by have:=y.den_nz;omega)⟩
 |n+1=>by
  obtain⟨h1,h2⟩:=uG a n;obtain⟨a1,a2,a3⟩:=uH a (n+1) 0 (nA a n);obtain⟨b1,b2,b3⟩:=uH a (n+1) 1 (l6 a (n+1) 0 (nA a n));show(l6 a (n+1) 1 (l6 a (n+1) 0 (nA a n))).den<=_/\∀y:Rat,y.den<=n+1->¬better a y (l6 a (n+1) 1 (l6 a (n+1) 0 (nA a n)));generalize hr1:l6 a (n+1) 0 (nA a n)=r1 at*;generalize hr2:l6 a (n+1) 1 r1=r2 at*;generalize nA a n=r0 at*;have hd:∀j:Int,(mkRat ((a*((n+1:Nat):Int)).floor+j) (n+1)).den<=n+1:=fun j=>j2 _ _ (by omega);refine⟨?_,fun y hy=>?_⟩
  ·have:=hd 0;have:=hd 1;have h5:r1.den<=max 1 (n+1):=by
    rcases a3 with h|h
    ·rw[h];omega
    ·rw[h];have:=hd ((0:Nat):Int);omega
   rcases b3 with h|h
   ·rw[h];exact h5
   ·rw[h];have:=hd ((1:Nat):Int);omega
  ·by_cases hyn:y.den<=n
   ·exact gI (gI (h2 y hyn) a1) b1
   ·have hyd:y.den=n+1:=by omega
    have hn0:(0:Rat)<((n+1:Nat):Int):=by exact_mod_cast (by omega:(0:Int)<((n+1:Nat):Int))
    have ey:y=(y.num:Rat)/(((n+1:Nat):Int):Rat):=by rw[←hyd];exact(sW y).symm
    have hm:∀z:Int,mkRat z (n+1)=(z:Rat)/(((n+1:Nat):Int):Rat):=fun z=>by rw[Rat.mkRat_eq_div];rfl
    have hlo:=Rat.floor_le (a*((n+1:Nat):Int));have hhi:=Rat.lt_floor_add_one (a*((n+1:Nat):Int));generalize hF:(a*((n+1:Nat):Int)).floor=F at*;have div_le:∀u v:Rat,u<=v->u/(((n+1:Nat):Int):Rat)<=v/(((n+1:Nat):Int):Rat):=fun u v h=>Rat.not_lt.1 (fun h2=>by
     rw[Rat.div_lt_iff hn0,Rat.div_mul_cancel (by grind)]at h2;exact absurd h2 (Rat.not_lt.2 h))
    have ea:a=(a*((n+1:Nat):Int))/(((n+1:Nat):Int):Rat):=by rw[Rat.mul_div_cancel (by grind)]
    by_cases hc:y.num<=F
    ·refine gI (gI (EY (l:=mkRat (F+((0:Nat):Int)) (n+1)) ?_ ?_) a2) b1
     ·rw[ey,hm];apply div_le;exact_mod_cast (by omega)
     ·rw[hm];rw[ea];apply div_le;rw[show F+((0:Nat):Int)=F by omega];exact hlo
    ·refine gI (Ep (r:=mkRat (F+((1:Nat):Int)) (n+1)) ?_ ?_) b2
     ·rw[ey,hm];apply div_le;exact_mod_cast (by omega)
     ·rw[hm];rw[ea];apply div_le;exact Rat.le_of_lt hhi
theorem t_(a:Rat)(n:Nat)(h:1<=n):Al a n (nA a n):=by
 have:=uG a n;exact⟨by have:=this.1;omega,this.2⟩
structure CF(a:Rat)(most:Int)(t:Rat)(p q lp lq:Int):Prop where
 hq:0<=q
 Cu:0<=lq
 mq:q<=most
 J5:lq<=most
 Jy:p*lq-lp*q=1\/p*lq-lp*q=-1
 rel:a*(t*(q:Rat)+(lq:Rat))=t*(p:Rat)+(lp:Rat)
 one:(q=0/\lq=1)\/(1<=q/\1<=t)
theorem Dq(a:Rat)(most:Int)(h:1<=most):CF a most a 1 0 0 1 where
 hq:=by omega
 Cu:=by omega
 mq:=by omega
 J5:=h
 Jy:=.inl (by omega)
 rel:=by simp;grind
 one:=.inl ⟨rfl,rfl⟩
theorem Fh{a:Rat}{most:Int}{t:Rat}{p q lp lq:Int}(h:CF a most t p q lp lq)(hm:t.floor*q+lq<=most)(ht:t-(t.floor:Rat)≠0):CF a most (1/(t-(t.floor:Rat))) (t.floor*p+lp) (t.floor*q+lq) p q:=by
 have h1:=Rat.floor_le t;have h2:=Rat.lt_floor_add_one t;have h2':t-(t.floor:Rat)<1:=by
  have:((t.floor+1:Int):Rat)=(t.floor:Rat)+1:=by simp
  rw[this]at h2;grind
 have hpos:0<t-(t.floor:Rat):=by grind
 have hq1:1<=t.floor*q+lq:=by
  rcases h.one with⟨e1,e2⟩|⟨e1,e2⟩
  ·rw[e1,e2];omega
  ·have h3:1<=t.floor:=Rat.le_floor_iff.2 (by simpa using e2);have h4:1*q<=t.floor*q:=Int.mul_le_mul_of_nonneg_right h3 h.hq;have:=h.Cu;omega
 generalize hf:t.floor=n at*;refine⟨by omega,h.hq,hm,h.mq,?_,?_,.inr ⟨hq1,?_⟩⟩
 ·rcases h.Jy with e|e
  ·right;grind
  ·left;grind
 ·have hr:=h.rel;have e1:((n*q+lq:Int):Rat)=(n:Rat)*q+lq:=by simp
  have e2:((n*p+lp:Int):Rat)=(n:Rat)*p+lp:=by simp
  rw[e1,e2];have hu:(1/(t-(n:Rat)))*(t-(n:Rat))=1:=Rat.div_mul_cancel ht;generalize 1/(t-(n:Rat))=u at*
  grind
 ·have hu:(1/(t-(n:Rat)))*(t-(n:Rat))=1:=Rat.div_mul_cancel ht;rw[show(1:Rat)<=1/(t-(n:Rat))↔1*(t-(n:Rat))<=1 by
   constructor
   ·intro h;grind
   ·intro _;exact Rat.not_lt.1 (fun h3=>by rw[Rat.div_lt_iff hpos]at h3;grind)]
  grind
theorem DL{a:Rat}{most:Int}{t:Rat}{p q lp lq k:Int}(hmost:1<=most)(h:CF a most t p q lp lq)(hm:most<t.floor*q+lq)(hk:k=(((most:Rat)-(lq:Rat))/(q:Rat)).floor):
  1<=q/\1<=k*q+lq/\k*q+lq<=most/\∀r,(r=((k*p+lp:Int):Rat)/((k*q+lq:Int):Rat)\/r=(p:Rat)/(q:Rat))->¬better a (((k*p+lp:Int):Rat)/((k*q+lq:Int):Rat)) r->¬better a ((p:Rat)/(q:Rat)) r->Al a most.toNat r:=by
 rcases h.one with⟨e1,e2⟩|⟨hq1,ht⟩
 ·exfalso;rw[e1,e2]at hm;omega
 have hqr:(0:Rat)<(q:Rat):=by exact_mod_cast (by omega:(0:Int)<q)
 have hlo:k*q<=most-lq:=by
  have h1:=Rat.floor_le (((most:Rat)-(lq:Rat))/(q:Rat));rw[←hk]at h1;have h2:¬(((most:Rat)-(lq:Rat))/(q:Rat)<(k:Rat)):=Rat.not_lt.2 h1;rw[Rat.div_lt_iff hqr]at h2;have h3:=Rat.not_lt.1 h2
  exact_mod_cast h3
 have hhi:most-lq<(k+1)*q:=by
  have h1:=Rat.lt_floor_add_one (((most:Rat)-(lq:Rat))/(q:Rat));rw[←hk,Rat.div_lt_iff hqr]at h1
  exact_mod_cast h1
 have hkn:k<t.floor:=by
  apply Int.lt_of_not_ge;intro h1;have:=Int.mul_le_mul_of_nonneg_right h1 h.hq;omega
 have hk0:0<=k:=by
  apply Int.le_of_not_gt;intro h1;have h2:(k+1)*q<=0*q:=Int.mul_le_mul_of_nonneg_right (by omega) h.hq;have:=h.J5;omega
 have e1:(k+1)*q=k*q+q:=by grind
 have hkq:0<=k*q:=Int.mul_nonneg hk0 h.hq;have Cu:=h.Cu;have hmq:=h.mq;have hD:1<=k*q+lq:=by omega
 refine⟨hq1,hD,by omega,fun r hr k1 k2=>?_⟩;have htn:(t.floor:Rat)<=t:=Rat.floor_le t;have hkt:(k:Rat)<t:=by
  have:(k:Rat)<(t.floor:Rat):=by exact_mod_cast hkn
  grind
 have hDr:(0:Rat)<((k*q+lq:Int):Rat):=by exact_mod_cast (by omega:(0:Int)<k*q+lq)
 have hlqr:(0:Rat)<=(lq:Rat):=by exact_mod_cast Cu
 have hW:0<t*(q:Rat)+(lq:Rat):=by
  have:0<t*(q:Rat):=Rat.mul_pos (by grind) hqr
  grind
 have hrel:=h.rel;have f1:(a*q-p)*(t*q+lq)=-((p*lq-lp*q:Int):Rat):=by
  have:((p*lq-lp*q:Int):Rat)=(p:Rat)*lq-lp*q:=by simp
  rw[this];grind
 have f2:(a*((k*q+lq:Int):Rat)-((k*p+lp:Int):Rat))*(t*q+lq)=(t-k)*((p*lq-lp*q:Int):Rat):=by
  have:((p*lq-lp*q:Int):Rat)=(p:Rat)*lq-lp*q:=by simp
  rw[this];have e2:((k*q+lq:Int):Rat)=(k:Rat)*q+lq:=by simp
  have e3:((k*p+lp:Int):Rat)=(k:Rat)*p+lp:=by simp
  rw[e2,e3];grind
 have sgn_pos:∀u:Rat,0<u*(t*q+lq)->0<u:=fun u hu=>Rat.not_le.1 (fun hc=>by
  have:=Rat.mul_le_mul_of_nonneg_right hc (Rat.le_of_lt hW)
  grind)
 rcases h.Jy with hdet|hdet
 ·-- x < a < y
  rw[hdet]at f1 f2;have g1:0< -(a*q-p):=sgn_pos _ (by grind);have g2:0<a*((k*q+lq:Int):Rat)-((k*p+lp:Int):Rat):=sgn_pos _ (by rw[f2];simp;grind);refine Bp (l1:=k*p+lp) (d1:=k*q+lq) (r1:=p) (d2:=q) (by omega) (by omega) (by omega) hmq (by grind) (by omega) ?_ ?_ hr k1 k2
  ·exact Rat.not_lt.1 (fun hc=>by rw[Rat.lt_div_iff hDr]at hc;grind)
  ·exact Rat.not_lt.1 (fun hc=>by rw[Rat.div_lt_iff hqr]at hc;grind)
 ·rw[hdet]at f1 f2;have g1:0<a*q-p:=sgn_pos _ (by rw[f1];simp;grind);have g2:0< -(a*((k*q+lq:Int):Rat)-((k*p+lp:Int):Rat)):=sgn_pos _ (by rw[Rat.neg_mul,f2];simp;grind);refine Bp (l1:=p) (d1:=q) (r1:=k*p+lp) (d2:=k*q+lq) (by omega) (by omega) hmq (by omega) (by grind) (by omega) ?_ ?_ hr.symm k2 k1
  ·exact Rat.not_lt.1 (fun hc=>by rw[Rat.lt_div_iff hqr]at hc;grind)
  ·exact Rat.not_lt.1 (fun hc=>by rw[Rat.div_lt_iff hDr]at hc;grind)
theorem H6{a:Rat}{most:Int}{t:Rat}{p q lp lq:Int}(h:CF a most t p q lp lq)(hm:t.floor*q+lq<=most)(ht:t-(t.floor:Rat)=0):(a.den:Int)<=most:=by
 have hq1:1<=t.floor*q+lq:=by
  rcases h.one with⟨e1,e2⟩|⟨e1,e2⟩
  ·rw[e1,e2];omega
  ·have h3:1<=t.floor:=Rat.le_floor_iff.2 (by simpa using e2);have h4:1*q<=t.floor*q:=Int.mul_le_mul_of_nonneg_right h3 h.hq;have:=h.Cu;omega
 have e:a=((t.floor*p+lp:Int):Rat)/((t.floor*q+lq:Int):Rat):=by
  have hr:=h.rel;have ht':t=(t.floor:Rat):=by grind
  have e1:((t.floor*q+lq:Int):Rat)=t*q+lq:=by
   have:((t.floor*q+lq:Int):Rat)=(t.floor:Rat)*q+lq:=by simp
   rw[this,←ht']
  have e2:((t.floor*p+lp:Int):Rat)=t*p+lp:=by
   have:((t.floor*p+lp:Int):Rat)=(t.floor:Rat)*p+lp:=by simp
   rw[this,←ht']
  have hne:((t.floor*q+lq:Int):Rat)≠0:=by
   have:(0:Rat)<((t.floor*q+lq:Int):Rat):=by exact_mod_cast (by omega:(0:Int)<t.floor*q+lq)
   grind
  rw[e1]at hne|-;rw[e2,←hr,Rat.mul_div_cancel hne]
 have:=zC (l:=t.floor*p+lp) (d:=t.floor*q+lq) (by omega);rw[←e]at this;omega
end Go.Am
namespace Go.Am
open Go.RowKit
set_option maxRecDepth 100000
noncomputable section
section
variable {P:Program} {n:Nat} {c:Ctx} {T T':List (Nat×D)} {H H':List (Nat×Hp)} {Q:Exit->Act->World->Prop} {ops:Array Oper}
theorem Bu{o:Oper}{a:Act}{next next':Act->World->Prop}(hn:∀a w,next a w->next' a w):∀{r:Result Next},o.upon P a next Q r->o.uponIn Fence.wide n P a next' Q r
 |.ok (.value v) w',h=>hn _ _ h
 |.ok .skip w',h=>hn _ _ h
 |.ok (.defer d) w',h=>hn _ _ h
 |.ok (.enter f args) w',h=>⟨fun hd=>(by simp[Fence.wide]at hd),callsIn_wide.2 (Calls.mono h fun e w'' hr=>by
   cases e with
   |returned v=>exact hn _ _ hr
   |panicked chain=>exact hr
   |outgrown=>exact hr)⟩
 |.ok (.row row args) w',h=>⟨fun hd=>(by simp[Fence.wide]at hd),fun c cs _=>let⟨v,w',r,s⟩:=h c cs;⟨v,w',hn _ _ r,stepsIn_wide.2 s⟩⟩
 |.halt (.panic v) w',h=>h
 |.ok (.round ..) _,h=>h.elim
theorem vM{l:List Oper}{sps:List Spec}(h:an P ops c l T H sps T' H'):∀(k:Nat) (rest:List Nat),(∀i,i<l.length->ops[k+i]?=l[i]?)->jP l=true->fD c.n l=true->
  (∀a w,Sat c (aW T') (ah H') a w->wpOpsIn Fence.wide n P ops Q rest a w)->∀a w,Sat c (aW T) (ah H) a w->wpOpsIn Fence.wide n P ops Q (List.range' k l.length++rest) a w:=by
 induction h with
 |nil=>exact fun k rest _ _ _ hk a w hs=>hk a w hs
 |@cons o os T H sp sps T' H' hs hi hh hn _ ih=>
  intro k rest hops hnd hd hk a w hsat;obtain⟨h1,h2⟩:=nZ hd;have ho:ops[k]?=some o:=by have:=hops 0 (by simp);simpa using this
  have hnd0:=nX hnd 0 o (by simp);have hnd1:jP os=true:=by
   unfold jP at hnd|-;rw[List.all_cons,Bool.and_eq_true]at hnd;exact hnd.2
  have:=hs h1 (aW T) (ah H) hi hh hn a w hsat Q (wpOpsIn Fence.wide n P ops Q (List.range' (k+1) os.length++rest)) (fun a' w' hs'=>ih (k+1) rest (fun i hi=>by
   have:=hops (i+1) (by simp;omega);rw[show k+1+i=k+(i+1)by omega,this];simp) hnd1 h2 hk a' w' (by rw[je,bC]at hs';exact hs'))
  rw[List.length_cons,List.range'_succ,List.cons_append];unfold wpOpsIn;rw[ho];simp only
  split
  ·rename_i hw;rw[if_pos hw]at this;refine⟨fun _ _=>trivial,?_⟩;rw[Oper.semAt_eq _ _ _ hnd0];exact Bu (fun _ _ h=>h) this
  ·rename_i hw;rw[if_neg hw]at this;exact⟨fun _ _=>trivial,this⟩
theorem yQ{id:Nat}{pre post:List Oper}{o:Oper}{T1 T2 T3:List (Nat×D)}{H1 H2 H3:List (Nat×Hp)}{sps sps2:List Spec}(hpre:an P (pre++o::post).toArray c pre T H sps T1 H1)(hn1:jP pre=true)(hd1:fD c.n pre=true)
  (hg:o.guard=none)(ho:∀a w (K:Act->World->Prop),(∀a' w',Sat c (aW T2) (ah H2) a' w'->K a' w')->Sat c (aW T1) (ah H1) a w->o.wpIn Fence.wide n P a w K Q)
  (hpost:an P (pre++o::post).toArray c post T2 H2 sps2 T3 H3)(hn2:jP post=true)(hd2:fD c.n post=true)(hQ:∀a w,Sat c (aW T3) (ah H3) a w->Q .normal a w):Ok P c T H (.region id (pre++o::post).toArray false) Q:=by
 intro a w hs;refine(wpIn_wide (n:=n)).1 (wpIn_region ?_);have e1:List.range (pre++o::post).toArray.size=List.range' 0 pre.length++(pre.length::(List.range' (pre.length+1) post.length++[])):=by
  rw[List.range_eq_range',List.append_nil];have:(pre++o::post).toArray.size=pre.length+(post.length+1):=by simp
  rw[this,←List.range'_append_1,List.range'_succ,Nat.zero_add]
 rw[e1];refine vM hpre 0 _ (fun i hi=>by simp[List.getElem?_append_left hi]) hn1 hd1 (fun a w hs=>?_) a w hs;unfold wpOpsIn;have e2:(pre++o::post).toArray[pre.length]?=some o:=by simp
 rw[e2];simp only;rw[if_pos (bm hg _)];refine ho a w _ (fun a' w' hs'=>?_) hs;refine vM hpost _ _ (fun i hi=>?_) hn2 hd2 (fun a w hs=>?_) a' w' hs'
 ·rw[List.getElem?_toArray,List.getElem?_append_right (by omega),show pre.length+1+i-pre.length=i+1 by omega,List.getElem?_cons_succ]
 ·exact hQ a w hs
theorem xp{σ ρ α:Type}{l:Nat}{TC:List (Nat×D)}{tm:Array Value}{C:St σ ρ->List (Nat×Hp)}{dx:α->D}{step:σ->α->Option (St σ ρ)}{s:σ}{x0:α}{st:St σ ρ}{id nc:Nat}{pre post:List Oper}{x y:Operand}{dst:Option Nat}{ty:TypeId}{pos:String}{aft:Array Edge}{ats:Array TypeId}{T1 T3:List (Nat×D)}{H1 H3:List (Nat×Hp)}{sps sps2:List Spec}
  (hY:rh P l TC tm C dx step)(hst:step s x0=some st)(hdx:(dx x0).nm=[])
  (hpre:an P (pre++⟨dst,.call {callee:=.value x,args:=#[y],argTypes:=ats},ty,pos,aft,none⟩::post).toArray c pre T H sps T1 H1)
  (hx:ev T1 x=some (.lit (.func (.yield l) #[] #[])))(hy:ev T1 y=some (dx x0))(hH:ah H1 nc=some (.caller TC tm (C (.next s))))
  (hpost:an P (pre++⟨dst,.call {callee:=.value x,args:=#[y],argTypes:=ats},ty,pos,aft,none⟩::post).toArray c post (bw T1 dst (.bool (py st))) ((nc,.caller TC tm (C st))::H1) sps2 T3 H3)
  (hn1:jP pre=true)(hn2:jP post=true)(hd1:fD c.n pre=true)(hd2:fD c.n post=true)(hd:∀t,dst=some t->t<c.n)
  (hQ:∀a w,Sat c (aW T3) (ah H3) a w->Q .normal a w):Ok P c T H (.region id (pre++⟨dst,.call {callee:=.value x,args:=#[y],argTypes:=ats},ty,pos,aft,none⟩::post).toArray false) Q:=
 yQ (n:=0) hpre hn1 hd1 rfl (fun _ _ _ hK hs=>CN hY hst hx hy hdx hH hd hK hs) hpost hn2 hd2 hQ
end
theorem yO(a:Rat):bf PP 163 [] [qD a] [(1,Hp.box 28 (qC a))] (.ry 223 [] [.ref 1 0]):=by
 refine .of Go.Proofs.Tryz.func163 rfl (by kernel_rfl) rfl rfl rfl rfl rfl rfl (fun A w0 L b=>?_);show Ok PP _ [(0,qD a)] [] _ _;refine .al (.iP rfl rfl<|.aq rfl<|.nil) rfl ?_;refine .al (.J7 (l:=[]) (m:=[.ref 1 0]) trivial ⟨rfl,trivial⟩<|.aq rfl<|.nil) rfl ?_;exact .aO (fun _ _ hb=>hb) rfl (.cons (.tmp rfl) .nil) (.refl _) trivial (.of rfl)
def m6{σ ρ:Type}(step:σ->Rat->Option (St σ ρ))(x:Rat×σ):Option (St (Rat×σ) (Rat×St σ ρ)):=
 (qo x.1).bind fun n=>(step x.2 n).bind fun st=>match st with
  |.done r=>some (.done (x.1,.done r))
  |.next s=>(ks x.1 n).bind fun a=>(cW a).bind fun g=>if(g==0)=true then some (.done (a,.next s))else(fY 1).bind fun one=>(fV one a).bind fun b=>some (.next (b,s))
theorem Dy(d:D):Le d .any:=⟨fun _ _ _ _ _=>trivial,fun r hr=>by cases hr⟩
theorem HG{σ ρ:Type}{l:Nat}{T:List (Nat×D)}{tm:Array Value}{C:St σ ρ->List (Nat×Hp)}{step:σ->Rat->Option (St σ ρ)}(hY:rh PP l T tm C qD step){a aE:Rat}{s0:σ}{cU:St σ ρ}(h:Loop (m6 step) (a,s0)=some (aE,cU)):
  bf PP 223 [(0,.box 28 (qC a)),(1,.caller T tm (C (.next s0)))] [.lit (.func (.yield l) #[] #[]),.ref 0 0] [(0,.box 28 (qC aE)),(1,.caller T tm (C cU))] .any:=by
 refine .of Go.Proofs.Tryz.func223 rfl (by kernel_rfl) rfl rfl rfl rfl rfl rfl (fun A w0 L b=>?_);show Ok PP _ [(0,.lit (.func (.yield l) #[] #[])),(1,.ref 0 0),(1000000,.pinned 0 (b 0)),(1000001,.pinned 1 (b 1))] [(0,.box 28 (qC a)),(1,.caller T tm (C (.next s0)))] _ _;refine .block (.bU (fun(s:Rat×σ)=>[(0,D.lit (.func (.yield l) #[] #[])),(1,D.ref 0 0),(1000000,D.pinned 0 (b 0)),(1000001,D.pinned 1 (b 1))]) (fun(s:Rat×σ)=>[(0,Hp.box 28 (qC s.1)),(1,Hp.caller T tm (C (.next s.2)))]) h (.of rfl) (.of rfl) rfl rfl ?_);rintro⟨x,s⟩ st0 hb;have h:m6 step (x,s)=some st0:=hb;clear hb;unfold m6 at h;show Ok PP _ [(0,D.lit (.func (.yield l) #[] #[])),(1,D.ref 0 0),(1000000,D.pinned 0 (b 0)),(1000001,D.pinned 1 (b 1))] [(0,Hp.box 28 (qC x)),(1,Hp.caller T tm (C (.next s)))] _ _;refine .block ?_;obtain⟨v,e1,h⟩:=bind_some h;refine .al (.ck (qC x) rfl rfl ae rfl rfl<|.ag (AK e1) ⟨rfl,trivial⟩ trivial trivial<|.fN (qC (0)) aI ⟨lY,lZ,l4,trivial⟩ rfl<|.cU (qC v) rfl rfl rfl ae rfl rfl rfl<|.nil) rfl ?_;obtain⟨st,hst,h⟩:=bind_some h;refine .sq ?_;refine .seq (K:=fun a w=>Sat ⟨A,w0.heap.size,w0,Go.Proofs.Tryz.f223.ntmps,L⟩ (aW [(9,D.bool (!py st)),(0,D.lit (.func (.yield l) #[] #[])),(1,D.ref 0 0),(3,D.ref 3 0),(1000000,D.pinned 0 (b 0)),(1000001,D.pinned 1 (b 1))]) (ah [(0,Hp.box 28 (qC x)),(1,Hp.caller T tm (C st)),(3,Hp.box 28 (qC v))]) a w) ?_ ?_
 ·refine xp (pre:=[_,_]) (post:=[_]) (nc:=1) hY hst rfl (.mv rfl<|.ck (qC v) rfl rfl ae rfl rfl<|.nil) rfl rfl rfl (.not rfl<|.nil) rfl rfl rfl rfl (fun t ht=>by injection ht with ht;subst ht;exact Nat.le_of_ble_eq_true rfl) ?_;exact fun a w hs=>hs.sub (.of rfl) (.of rfl) rfl rfl
 show Ok PP _ [(9,D.bool (!py st)),(0,D.lit (.func (.yield l) #[] #[])),(1,D.ref 0 0),(3,D.ref 3 0),(1000000,D.pinned 0 (b 0)),(1000001,D.pinned 1 (b 1))] [(0,Hp.box 28 (qC x)),(1,Hp.caller T tm (C st)),(3,Hp.box 28 (qC v))] _ _
 cases st with
 |done r=>
  refine .cT rfl ?_;refine .aO (Hi:=[(0,.box 28 (qC a)),(1,.caller T tm (C (.next s0)))]) (Ho:=[(0,.box 28 (qC x)),(1,.caller T tm (C (.done r)))]) (b:=b) (fn:=Go.Proofs.Tryz.f223) (d:=.any) (fun _ _ hb=>by
   refine⟨_,(Option.some.inj h).symm,fun e=>?_⟩;injection e with e1 e2;subst e1;subst e2;exact hb) rfl .nil (Dy _) (.of rfl) (.of rfl)
 |next s'=>
  simp only at h;refine .cF rfl (.skip (Ok.on ?_));obtain⟨v2,e2,h⟩:=bind_some h;refine .sq ?_;refine .al (.ck (qC x) rfl rfl ae rfl rfl<|.ck (qC v) rfl rfl ae rfl rfl<|.ag (rX e2) ⟨rfl,rfl,trivial⟩ trivial trivial<|.cU (qC v2) rfl rfl rfl ae rfl rfl rfl<|.nil) rfl ?_;obtain⟨v3,e3,h⟩:=bind_some h;refine .al (.ck (qC v2) rfl rfl ae rfl rfl<|.ag (iv e3) ⟨rfl,trivial⟩ trivial trivial<|.cm rfl rfl rfl<|.nil) rfl ?_;by_cases c1:(v3==0)=true
  ·replace h:=ab c1 h;refine .cl rfl c1 ?_;exact .aO (Hi:=[(0,.box 28 (qC a)),(1,.caller T tm (C (.next s0)))]) (Ho:=[(0,.box 28 (qC v2)),(1,.caller T tm (C (.next s')))]) (b:=b) (fn:=Go.Proofs.Tryz.f223) (d:=.any) (fun _ _ hb=>by
    refine⟨_,(Option.some.inj h).symm,fun e=>?_⟩;injection e with e1 e2;subst e1;subst e2;exact hb) rfl .nil (Dy _) (.of rfl) (.of rfl)
  ·replace h:=aa c1 h;refine .cq rfl c1 (.skip (Ok.on ?_));obtain⟨v4,e4,h⟩:=bind_some h;obtain⟨v5,e5,h⟩:=bind_some h;exact .c_ cf (.ag (kK e4) ⟨rfl,trivial⟩ trivial trivial<|.ck (qC v2) rfl rfl ae rfl rfl<|.ag (lh e5) ⟨rfl,rfl,trivial⟩ trivial trivial<|.cU (qC v5) rfl rfl rfl ae rfl rfl rfl<|.nil) rfl (by kernel_rfl)
    (fun _ _ hs=>⟨(v5,s'),(Option.some.inj h).symm,hs.sub (.of rfl) (.of rfl) rfl rfl⟩)
def AJ(T:List (Nat×D)):List (Nat×D)->Prop
 |[]=>True
 |(t,d)::l=>aW T t=some d/\AJ T l
theorem sb{T:List (Nat×D)}:∀{l:List (Nat×D)},AJ T l->∀t d,aW l t=some d->aW T t=some d
 |[],_,r,h,hh=>by cases hh
 |(r0,h0)::l,ha,r,h,hh=>by
  simp only[aW]at hh
  cases hb:Nat.beq r r0 with
  |true=>rw[hb]at hh;injection hh with hh;subst hh;rw[Nat.eq_of_beq_eq_true hb];exact ha.1
  |false=>rw[hb]at hh;exact sb ha.2 r h hh
theorem yU{σ ρ:Type}{j:Nat}{Q:Exit->Act->World->Prop}{st:St σ ρ}{a:Act}{w:World}(h:Q .normal a w):Exit.inBlock j Q (AE j st) a w:=by
 cases st with
 |next s=>exact h
 |done r=>exact aS h
abbrev Ns:=Rat×Rat×Rat×Rat
def Ns.fin:St Ns Ns->Ns
 |.next s=>s
 |.done s=>s
def mP(most:Int)(s:Ns)(n:Rat):Option (St Ns Ns):=
 (fh n s.2.1).bind fun v32=>(jj v32 s.2.2.2).bind fun v34=>(fY most).bind fun v37=>(lJ v34 v37).bind fun v38=>
  if(decide (v38>0))=true then(fY most).bind fun v41=>(ks v41 s.2.2.2).bind fun v43=>(fV v43 s.2.1).bind fun v45=>(qo v45).bind fun v46=>(fh v46 s.1).bind fun v49=>(jj v49 s.2.2.1).bind fun v51=>(fh v46 s.2.1).bind fun v54=>(jj v54 s.2.2.2).bind fun v56=>some (.done (v51,v56,s.1,s.2.1))
  else(fh n s.1).bind fun v61=>(jj v61 s.2.2.1).bind fun v63=>some (.next (v63,v34,s.1,s.2.1))
def wZ(a:Rat)(most:Int):Option (Rat×Int):=
 if(decide (most<1))=true then some (0,3)else(uQ a).bind fun v17=>(fY most).bind fun v19=>(lJ v17 v19).bind fun v20=>if(decide (v20<=0))=true then some (a,0)else(fY 1).bind fun v23=>(fY 0).bind fun v24=>
  (Loop (m6 (mP most)) (a,(v23,v24,v24,v23))).bind fun x=>(fV (Ns.fin x.2).1 (Ns.fin x.2).2.1).bind fun v70=>(fV (Ns.fin x.2).2.2.1 (Ns.fin x.2).2.2.2).bind fun v73=>(oe a v70 v73).bind fun r=>some (r,0)
def EU(a:Rat)(most:Int)(st:St Ns Ns):List (Nat×Hp):=
 [(2,Hp.box 28 (qC a)),(3,Hp.box 2 [D.int .i64 most]),(4,Hp.box 28 (qC 0)),(6,Hp.box 28 (qC (Ns.fin st).1)),(7,Hp.box 28 (qC (Ns.fin st).2.1)),(8,Hp.box 28 (qC (Ns.fin st).2.2.1)),(9,Hp.box 28 (qC (Ns.fin st).2.2.2))]
def GS:List (Nat×D):=[(2,D.ref 2 0),(3,D.ref 3 0),(4,D.ref 4 0),(6,D.ref 6 0),(7,D.ref 7 0),(8,D.ref 8 0),(9,D.ref 9 0)]
theorem H9{a:Rat}{most:Int}{r:Rat}{e:Int}(h:wZ a most=some (r,e)):bf PP 28 [] [qD a,D.int .i64 most] [] (D.ig [qD r,D.int .i64 e]):=by
 unfold wZ at h;refine .ofM Go.Proofs.Tryz.func28 rfl (by kernel_rfl) rfl rfl rfl rfl rfl rfl (fun A w0 L b=>?_);show Ok PP _ [(0,qD a),(1,D.int .i64 most)] [] _ _;refine .al (.iP rfl rfl<|.Kd rfl rfl rfl<|.fN (qC (0)) aI ⟨lY,lZ,l4,trivial⟩ rfl<|.aq rfl<|.nil) rfl ?_;refine .sq ?_;refine .al (.bu (D.int .i64 most) rfl rfl iQ rfl<|.cm rfl rfl rfl<|.nil) rfl ?_;by_cases c1:(decide (most<1))=true
 ·replace h:=ab c1 h;refine .cl rfl c1 ?_;refine .al (.n_ (qC (0)) [] aI cY trivial trivial ⟨lY,lZ,l4,trivial⟩<|.cU (qC (0)) rfl rfl rfl ae rfl rfl rfl<|.aq rfl<|.nil) rfl ?_;cases h;exact .aO xX rfl (.cons (.agg rfl rfl ae rfl) (.cons (.tmp rfl) .nil)) (.refl _) trivial trivial
 replace h:=aa c1 h;refine .cq rfl c1 (.skip (Ok.on ?_));obtain⟨v17,e17,h⟩:=bind_some h;obtain⟨v19,e19,h⟩:=bind_some h;obtain⟨v20,e20,h⟩:=bind_some h;refine .sq ?_;refine .cZ cf (.ck (qC (a)) rfl rfl ae rfl rfl<|.ag (Dl e17) ⟨rfl,trivial⟩ trivial trivial<|.bu (D.int .i64 most) rfl rfl iQ rfl<|.ag (kK e19) ⟨rfl,trivial⟩ trivial trivial<|.ag (vY e20) ⟨rfl,rfl,trivial⟩ trivial trivial<|.cm rfl rfl rfl<|.nil) rfl (by kernel_rfl) ?_;by_cases c2:(decide (v20<=0))=true
 ·replace h:=ab c2 h;refine .cl rfl c2 ?_;refine .al (.ck (qC (a)) rfl rfl ae rfl rfl<|.cU (qC (a)) rfl rfl rfl ae rfl rfl rfl<|.aq rfl<|.nil) rfl ?_;cases h;exact .aO xX rfl (.cons (.agg rfl rfl ae rfl) (.cons (.tmp rfl) .nil)) (.refl _) trivial trivial
 replace h:=aa c2 h;refine .cq rfl c2 (.skip (Ok.on ?_));obtain⟨v23,e23,h⟩:=bind_some h;obtain⟨v24,e24,h⟩:=bind_some h;refine .al (.ag (kK e23) ⟨rfl,trivial⟩ trivial trivial<|.ag (kK e24) ⟨rfl,trivial⟩ trivial trivial<|.ag (kK e24) ⟨rfl,trivial⟩ trivial trivial<|.ag (kK e23) ⟨rfl,trivial⟩ trivial trivial<|.fN (qC (0)) aI ⟨lY,lZ,l4,trivial⟩ rfl<|.fN (qC (0)) aI ⟨lY,lZ,l4,trivial⟩ rfl<|.fN (qC (0)) aI ⟨lY,lZ,l4,trivial⟩ rfl<|.fN (qC (0)) aI ⟨lY,lZ,l4,trivial⟩ rfl<|.cU (qC (v23)) rfl rfl rfl ae rfl rfl rfl<|.cU (qC (v24)) rfl rfl rfl ae rfl rfl rfl<|.cU (qC (v24)) rfl rfl rfl ae rfl rfl rfl<|.cU (qC (v23)) rfl rfl rfl ae rfl rfl rfl<|.nil) rfl ?_;refine .sq ?_;refine .al (.ck (qC (a)) rfl rfl ae rfl rfl<|.ag (yO a) ⟨rfl,trivial⟩ trivial ⟨rfl,trivial⟩<|.nil) rfl ?_;obtain⟨⟨aE,cU⟩,hl,h⟩:=bind_some h;refine .block ?_;refine Ok.Ij (σ:=Ns) (ρ:=Ns) (α:=Rat) (rb:=1) (tb:=28) (j:=0) (rd:=900) (dd:=901) (lb:=qC a) (lb':=qC aE) (C:=EU a most) (dx:=qD) (step:=mP most) (s0:=(v23,v24,v24,v23)) (cU:=cU) GS [2,3,4,6,7,8,9]
  rfl (by kernel_rfl) rfl rfl ?_ ?_ rfl rfl rfl rfl (fun _=>rfl) (fun _ _ _ _=>rfl) (fun _ _=>rfl) (fun _=>rfl) (Nat.le_of_ble_eq_true rfl) (fun l b fn tm hY=>HG hY hl)
  (fun x=>[(10,Hp.box 28 (qC x))]) (fun β _ _ _=>[(10,D.ref 10 0),(2,D.ref 2 0),(3,D.ref 3 0),(4,D.ref 4 0),(6,D.ref 6 0),(7,D.ref 7 0),(8,D.ref 8 0),(9,D.ref 9 0)]++pins β [900,901,2,3,4,6,7,8,9]) ?_ ?_ ?_ ?_
 ·exact sb ⟨rfl,rfl,rfl,rfl,rfl,rfl,rfl,trivial⟩
 ·exact ur ⟨rfl,rfl,rfl,rfl,rfl,rfl,rfl,trivial⟩
 ·exact fun β l b x=>(.of rfl)
 ·-- the left side
  intro l b o s x st hst A w0 L β;refine mx.region (fun⟨_,_,hf⟩=>hf.elim) rfl (.fN (qC (0)) aI ⟨lY,lZ,l4,trivial⟩ rfl<|.cU (qC (x)) rfl rfl rfl ae rfl rfl rfl<|.nil) rfl (fun a' w' hs=>hs.sub (T':=[(10,D.ref 10 0),(2,D.ref 2 0),(3,D.ref 3 0),(4,D.ref 4 0),(6,D.ref 6 0),(7,D.ref 7 0),(8,D.ref 8 0),(9,D.ref 9 0),(1000900,D.pinned 900 (β 900)),(1000901,D.pinned 901 (β 901)),(1000002,D.pinned 2 (β 2)),(1000003,D.pinned 3 (β 3)),(1000004,D.pinned 4 (β 4)),(1000006,D.pinned 6 (β 6)),(1000007,D.pinned 7 (β 7)),(1000008,D.pinned 8 (β 8)),(1000009,D.pinned 9 (β 9))]) (H':=cA 900 901 o (EU a most) (.next s)++[(10,Hp.box 28 (qC x))]) (.of rfl) (.of rfl) rfl rfl)
 ·-- the body
  intro l b o s n st hst A w0 L β;obtain⟨p,q,lp,lq⟩:=s;unfold mP at hst;simp only at hst;show mx PP _ [(10,D.ref 10 0),(2,D.ref 2 0),(3,D.ref 3 0),(4,D.ref 4 0),(6,D.ref 6 0),(7,D.ref 7 0),(8,D.ref 8 0),(9,D.ref 9 0),(1000900,D.pinned 900 (β 900)),(1000901,D.pinned 901 (β 901)),(1000002,D.pinned 2 (β 2)),(1000003,D.pinned 3 (β 3)),(1000004,D.pinned 4 (β 4)),(1000006,D.pinned 6 (β 6)),(1000007,D.pinned 7 (β 7)),(1000008,D.pinned 8 (β 8)),(1000009,D.pinned 9 (β 9))] [(900,Hp.obj o),(901,Hp.obj (.deferred (some []))),(2,Hp.box 28 (qC a)),(3,Hp.box 2 [D.int .i64 most]),(4,Hp.box 28 (qC 0)),(6,Hp.box 28 (qC p)),(7,Hp.box 28 (qC q)),(8,Hp.box 28 (qC lp)),(9,Hp.box 28 (qC lq)),(10,Hp.box 28 (qC n))] _ _;refine .block ?_;obtain⟨v32,e32,hst⟩:=bind_some hst;obtain⟨v34,e34,hst⟩:=bind_some hst;obtain⟨v37,e37,hst⟩:=bind_some hst;obtain⟨v38,e38,hst⟩:=bind_some hst;refine .cZ (by rintro⟨_,_,hf⟩;exact hf) rfl cf (.ck (qC (n)) rfl rfl ae rfl rfl<|.ck (qC (q)) rfl rfl ae rfl rfl<|.ag (lE e32) ⟨rfl,rfl,trivial⟩ trivial trivial<|.ck (qC (lq)) rfl rfl ae rfl rfl<|.ag (mL e34) ⟨rfl,rfl,trivial⟩ trivial trivial<|.fN (qC (0)) aI ⟨lY,lZ,l4,trivial⟩ rfl<|.cU (qC (v34)) rfl rfl rfl ae rfl rfl rfl<|.nil) rfl (by kernel_rfl) ?_;refine .sq ?_;refine .cZ (by rintro⟨_,_,hf⟩;exact hf) rfl cf (.ck (qC (v34)) rfl rfl ae rfl rfl<|.bu (D.int .i64 most) rfl rfl iQ rfl<|.ag (kK e37) ⟨rfl,trivial⟩ trivial trivial<|.ag (vY e38) ⟨rfl,rfl,trivial⟩ trivial trivial<|.cm rfl rfl rfl<|.nil) rfl (by kernel_rfl) ?_;by_cases c3:(decide (v38>0))=true
  ·replace hst:=ab c3 hst;refine .cl rfl c3 ?_;obtain⟨v41,e41,hst⟩:=bind_some hst;obtain⟨v43,e43,hst⟩:=bind_some hst;obtain⟨v45,e45,hst⟩:=bind_some hst;obtain⟨v46,e46,hst⟩:=bind_some hst;obtain⟨v49,e49,hst⟩:=bind_some hst;obtain⟨v51,e51,hst⟩:=bind_some hst;obtain⟨v54,e54,hst⟩:=bind_some hst;obtain⟨v56,e56,hst⟩:=bind_some hst;refine .cZ (by rintro⟨_,_,hf⟩;exact hf) rfl cf (.bu (D.int .i64 most) rfl rfl iQ rfl<|.ag (kK e41) ⟨rfl,trivial⟩ trivial trivial<|.ck (qC (lq)) rfl rfl ae rfl rfl<|.ag (rX e43) ⟨rfl,rfl,trivial⟩ trivial trivial<|.ck (qC (q)) rfl rfl ae rfl rfl<|.ag (lh e45) ⟨rfl,rfl,trivial⟩ trivial trivial<|.ag (AK e46) ⟨rfl,trivial⟩ trivial trivial<|.fN (qC (0)) aI ⟨lY,lZ,l4,trivial⟩ rfl<|.cU (qC (v46)) rfl rfl rfl ae rfl rfl rfl<|.nil) rfl (by kernel_rfl) ?_;refine .cZ (by rintro⟨_,_,hf⟩;exact hf) rfl cf (.ck (qC (v46)) rfl rfl ae rfl rfl<|.ck (qC (p)) rfl rfl ae rfl rfl<|.ag (lE e49) ⟨rfl,rfl,trivial⟩ trivial trivial<|.ck (qC (lp)) rfl rfl ae rfl rfl<|.ag (mL e51) ⟨rfl,rfl,trivial⟩ trivial trivial<|.ck (qC (v46)) rfl rfl ae rfl rfl<|.ck (qC (q)) rfl rfl ae rfl rfl<|.ag (lE e54) ⟨rfl,rfl,trivial⟩ trivial trivial<|.ck (qC (lq)) rfl rfl ae rfl rfl<|.ag (mL e56) ⟨rfl,rfl,trivial⟩ trivial trivial<|.ck (qC (p)) rfl rfl ae rfl rfl<|.ck (qC (q)) rfl rfl ae rfl rfl<|.cU (qC (v51)) rfl rfl rfl ae rfl rfl rfl<|.cU (qC (v56)) rfl rfl rfl ae rfl rfl rfl<|.cU (qC (p)) rfl rfl rfl ae rfl rfl rfl<|.cU (qC (q)) rfl rfl rfl ae rfl rfl rfl<|.nil) rfl (by kernel_rfl) ?_;have e0:=Option.some.inj hst;subst e0;exact .exit (fun a' w' hs=>⟨rfl,⟨_,rfl⟩,[(1000900,D.pinned 900 (β 900)),(1000901,D.pinned 901 (β 901)),(1000002,D.pinned 2 (β 2)),(1000003,D.pinned 3 (β 3)),(1000004,D.pinned 4 (β 4)),(1000006,D.pinned 6 (β 6)),(1000007,D.pinned 7 (β 7)),(1000008,D.pinned 8 (β 8)),(1000009,D.pinned 9 (β 9))],(.of rfl),hs.sub (.of rfl) (.of rfl) rfl rfl⟩)
  ·replace hst:=aa c3 hst;refine .cq rfl c3 (.skip (mx.on ?_));obtain⟨v61,e61,hst⟩:=bind_some hst;obtain⟨v63,e63,hst⟩:=bind_some hst;have e0:=Option.some.inj hst;subst e0;exact .c_ (by rintro⟨_,_,hf⟩;exact hf) rfl cf (.ck (qC (n)) rfl rfl ae rfl rfl<|.ck (qC (p)) rfl rfl ae rfl rfl<|.ag (lE e61) ⟨rfl,rfl,trivial⟩ trivial trivial<|.ck (qC (lp)) rfl rfl ae rfl rfl<|.ag (mL e63) ⟨rfl,rfl,trivial⟩ trivial trivial<|.ck (qC (v34)) rfl rfl ae rfl rfl<|.ck (qC (p)) rfl rfl ae rfl rfl<|.ck (qC (q)) rfl rfl ae rfl rfl<|.cU (qC (v63)) rfl rfl rfl ae rfl rfl rfl<|.cU (qC (v34)) rfl rfl rfl ae rfl rfl rfl<|.cU (qC (p)) rfl rfl rfl ae rfl rfl rfl<|.cU (qC (q)) rfl rfl rfl ae rfl rfl rfl<|.nil) rfl (by kernel_rfl)
    (fun a' w' hs=>⟨⟨_,rfl⟩,[(1000900,D.pinned 900 (β 900)),(1000901,D.pinned 901 (β 901)),(1000002,D.pinned 2 (β 2)),(1000003,D.pinned 3 (β 3)),(1000004,D.pinned 4 (β 4)),(1000006,D.pinned 6 (β 6)),(1000007,D.pinned 7 (β 7)),(1000008,D.pinned 8 (β 8)),(1000009,D.pinned 9 (β 9))],(.of rfl),hs.sub (.of rfl) (.of rfl) rfl rfl⟩)
 ·-- behind the loop
  intro l b o a' w' hd hs;obtain⟨v70,e70,h⟩:=bind_some h;obtain⟨v73,e73,h⟩:=bind_some h;obtain⟨rr,er,h⟩:=bind_some h;have hs':Sat _ (aW ((2000001,D.pinned 901 (ptrTo b))::GS)) (ah ((901,Hp.obj (.deferred (some [])))::EU a most cU)) _ _:=hs.sub (.of rfl) (.of rfl) rfl rfl;refine yU ?_;show Code.wp PP _ _ a' w';refine(show GW PP [mark b] ⟨A,w0.heap.size,w0,_,L⟩ [(2000001,D.pinned 901 (ptrTo b)),(2,D.ref 2 0),(3,D.ref 3 0),(4,D.ref 4 0),(6,D.ref 6 0),(7,D.ref 7 0),(8,D.ref 8 0),(9,D.ref 9 0)] [(901,Hp.obj (.deferred (some []))),(2,Hp.box 28 (qC a)),(3,Hp.box 2 [D.int .i64 most]),(4,Hp.box 28 (qC 0)),(6,Hp.box 28 (qC (Ns.fin cU).1)),(7,Hp.box 28 (qC (Ns.fin cU).2.1)),(8,Hp.box 28 (qC (Ns.fin cU).2.2.1)),(9,Hp.box 28 (qC (Ns.fin cU).2.2.2))] _ _ from ?_) a' w' hd hs';refine GW.cZ cf (.ck (qC (a)) rfl rfl ae rfl rfl<|.ck (qC ((Ns.fin cU).1)) rfl rfl ae rfl rfl<|.ck (qC ((Ns.fin cU).2.1)) rfl rfl ae rfl rfl<|.ag (lh e70) ⟨rfl,rfl,trivial⟩ trivial trivial<|.ck (qC ((Ns.fin cU).2.2.1)) rfl rfl ae rfl rfl<|.ck (qC ((Ns.fin cU).2.2.2)) rfl rfl ae rfl rfl<|.ag (lh e73) ⟨rfl,rfl,trivial⟩ trivial trivial<|.ag (Ea er) ⟨rfl,rfl,rfl,trivial⟩ trivial trivial<|.cU (qC (rr)) rfl rfl rfl ae rfl rfl rfl<|.aq rfl<|.nil) rfl (by kernel_rfl) ?_;intro a2 w2 hd2 hs2;cases h;refine wp_ret ?_;have hs3:=hs2.sub (T':=[(2000001,D.pinned 901 (ptrTo b)),(4,D.ref 4 0),(5,D.int .i64 0)]) (H':=[(901,Hp.obj (.deferred (some []))),(4,Hp.box 28 (qC r))]) (.of rfl) (.of rfl) rfl rfl;exact Sat.JX hd2 hs3 (fun ε φ hs=>hs.t 2000001 _ rfl) rfl (.cons (.agg rfl rfl ae rfl) (.cons (.tmp rfl) .nil)) (.refl _) trivial trivial
end
end Go.Am
