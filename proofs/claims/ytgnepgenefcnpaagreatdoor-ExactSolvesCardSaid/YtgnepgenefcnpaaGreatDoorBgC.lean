/- Part 3 of 7 of what the laws of layer 1 share: contracts of functions of the program, each for every argument of its description; no condition beyond it. -/
import Derived.Test.YtgnepgenefcnpaaGreatDoorBgB
import Derived.Shelf.Strings.SlTrimAscii
import Derived.Shelf.Strings.Trim
import Derived.Shelf.Small.Strs
import Derived.Shelf.Strings.Search1
import Derived.Shelf.Strings.Search2
import Derived.Shelf.Strings.Cut
import Derived.Test.YtgnepgenefcnpaaGreatDoorProg
import Derived.RangeFuncOwn
set_option linter.unusedVariables false
set_option linter.unusedSimpArgs false
namespace Go.Am
open Go.RowKit
set_option maxRecDepth 100000
noncomputable section
def jm(v2:List Int):Option (St (List Int) (List Int)):=(if(decide ((v2.length:Int)>0))=true then(ix v2 (IntKind.i64.wrap ((v2.length:Int)-1))).bind fun v8=>(if(v8==0)=true then bZ ((0:Int)<=(IntKind.i64.wrap ((v2.length:Int)-1))/\((IntKind.i64.wrap ((v2.length:Int)-1)):Int)<=(v2.length:Int)) (some (St.next (List.take (IntKind.i64.wrap ((v2.length:Int)-1)).toNat v2)))else some (St.done v2))else some (St.done v2))
def iE(a1:List Int):Option (List Int):=(Loop (fun(s:(List Int))=>jm s) a1).bind fun v12=>some v12
theorem ou{a1:List Int}{r13:List Int}(h:iE a1=some r13):aS PP 248 [] [ag (ak.int .i64) a1] [] (ag (ak.int .i64) r13):=by
 unfold iE at h
 refine .of Go.Proofs.Tryz.func248 rfl (by kernel_rfl) rfl rfl rfl rfl rfl rfl (fun A w0 L b=>?_)
 show Ok PP _ [(0,ag (ak.int .i64) a1)] [] _ _
 refine .al (.aq rfl<|.nil) rfl ?_
 obtain⟨v12,hl4,h⟩:=bind_some h
 refine .cd (fun i=>v12=i) (fun(i:(List Int))=>[(0,ag (ak.int .i64) i)]) (fun(i:(List Int))=>[]) ?_ ?_
 ·have ho1:=h
  clear h
  refine .block (.b8 (fun(s:(List Int))=>[(0,ag (ak.int .i64) s)]) (fun(s:(List Int))=>[]) hl4 (.of rfl) trivial rfl rfl ?_)
  rintro v2 st5 hb6
  have h:jm v2=some st5:=hb6
  clear hb6
  unfold jm at h
  try dsimp only
  refine .sq ?_
  by_cases c7:(decide ((v2.length:Int)>0))=true
  ·replace h:=aa c7 h
   obtain⟨v8,e9,h⟩:=bind_some h
   refine .al (.mv rfl<|.ep rfl ba<|.cm rfl rfl rfl<|.mv rfl<|.aV rfl rfl rfl c7<|.mv rfl<|.aV rfl rfl rfl c7<|.mv rfl<|.aV rfl rfl rfl c7<|.ep rfl ba<|.aV rfl rfl rfl c7<|.ar rfl rfl rfl<|.aV rfl rfl rfl c7<|.ko rfl rfl cy (af e9).1 (af e9).2<|.aV rfl rfl rfl c7<|.gC rfl cB<|.aV rfl rfl rfl c7<|.cm rfl rfl rfl<|.bn rfl c7 rfl<|.nil) rfl ?_
   by_cases c10:(v8==0)=true
   ·replace h:=aa c10 h
    refine .cj rfl c10 ?_
    refine .skip (Ok.on ?_)
    refine .block ?_
    obtain⟨k11,h⟩:=aw h
    refine .region (.mv rfl<|.mv rfl<|.ep rfl ba<|.ar rfl rfl rfl<|.Gu rfl rfl cy k11.1 k11.2<|.aq rfl<|.nil) rfl (fun _ _ hs=>⟨(List.take (IntKind.i64.wrap ((v2.length:Int)-1)).toNat v2),(Option.some.inj h).symm,hs.sub (.of rfl) trivial rfl rfl⟩)
   ·replace h:=ab c10 h
    refine .ck rfl c10 ?_
    refine .exit (fun _ _ hs=>⟨_,(Option.some.inj h).symm,fun e=>⟨v2,e.symm,hs.sub (.of rfl) trivial rfl rfl⟩⟩)
  ·replace h:=ab c7 h
   refine .al (.mv rfl<|.ep rfl ba<|.cm rfl rfl rfl<|.mv rfl<|.aT rfl rfl rfl c7<|.aT rfl rfl rfl c7<|.aT rfl rfl rfl c7<|.aT rfl rfl rfl c7<|.aT rfl rfl rfl c7<|.aT rfl rfl rfl c7<|.aT rfl rfl rfl c7<|.bm rfl c7 rfl<|.nil) rfl ?_
   refine .ck rfl (by decide) ?_
   refine .exit (fun _ _ hs=>⟨_,(Option.some.inj h).symm,fun e=>⟨v2,e.symm,hs.sub (.of rfl) trivial rfl rfl⟩⟩)
 ·rintro _ rfl
  try dsimp only
  refine .al (.mv rfl<|.aq rfl<|.nil) rfl ?_
  cases h
  refine .aH (fun _ _ hb=>hb) rfl (.cons (.tmp rfl) .nil) (.refl _) trivial trivial
def jt(v2:Int)(v3:List Int):Option (St (Int×(List Int)) (List Int)):=(if(v2 !=0)=true then((if(decide ((Int.tmod v2 10000)<0))=true then some ((IntKind.i64.wrap (0-(Int.tmod v2 10000))))else some ((Int.tmod v2 10000)))).bind fun v12=>bZ ((v3.length+([v12]).length)*8<=140737488355328/\v3.length+([v12]).length<=9223372036854775807) (some (St.next ((IntKind.i64.wrap (Int.tdiv v2 10000)),(v3++[v12]))))else some (St.done v3))
def eY(a1:Int):Option (Bool×(List Int)):=(Loop (fun(s:Int×(List Int))=>jt s.1 s.2) (a1,[])).bind fun v14=>some ((decide (a1<0)),v14)
theorem j6{a1:Int}{r15:Bool}{r16:List Int}(h:eY a1=some (r15,r16)):aS PP 157 [] [D.int .i64 a1] [] (D.agg ([D.bool r15,ag (ak.int .i64) r16])):=by
 unfold eY at h
 refine .of Go.Proofs.Tryz.func157 rfl (by kernel_rfl) rfl rfl rfl rfl rfl rfl (fun A w0 L b=>?_)
 show Ok PP _ [(0,D.int .i64 a1)] [] _ _
 refine .al (.gd ([D.bool false,D.nil]) bQ ⟨.refl _,.refl _,trivial⟩ rfl<|.nil) rfl ?_
 refine .al (.gd ([D.bool false,D.nil]) bQ ⟨.refl _,.refl _,trivial⟩ rfl<|.nil) rfl ?_
 refine .al (.mv rfl<|.cm rfl rfl rfl<|.fa rfl bu<|.w8 ([D.bool (decide (a1<0)),D.nil]) rfl rfl rfl bH rfl rfl rfl<|.nil) rfl ?_
 refine .F9 (ak.int .i64) 3 1 2000301 3 ([D.bool (decide (a1<0)),D.own 2000301]) rfl rfl rfl rfl ?_
 obtain⟨v14,hl5,h⟩:=bind_some h
 refine .cd (fun i=>v14=i) (fun(i:(List Int))=>[(2,D.ref 2 0),(3,D.ref 3 0)]) (fun(i:(List Int))=>[(2,Hp.box 35 ([D.bool false,D.nil])),(3,Hp.box 35 ([D.bool (decide (a1<0)),D.own 2000301])),(2000301,a_ (ak.int .i64) 3 i)]) ?_ ?_
 ·have ho1:=h
  clear h
  refine .block (.b8 (fun(s:Int×(List Int))=>[(0,D.int .i64 s.1),(2,D.ref 2 0),(3,D.ref 3 0)]) (fun(s:Int×(List Int))=>[(2,Hp.box 35 ([D.bool false,D.nil])),(3,Hp.box 35 ([D.bool (decide (a1<0)),D.own 2000301])),(2000301,a_ (ak.int .i64) 3 s.2)]) hl5 (.of rfl) (.of rfl) rfl rfl ?_)
  rintro⟨v2,v3⟩ st6 hb7
  have h:jt v2 v3=some st6:=hb7
  clear hb7
  unfold jt at h
  try dsimp only
  refine .sq ?_
  refine .al (.mv rfl<|.cm rfl rfl rfl<|.nil) rfl ?_
  by_cases c8:(v2 !=0)=true
  ·replace h:=aa c8 h
   refine .cj rfl c8 ?_
   refine .skip (Ok.on ?_)
   refine .block ?_
   refine .al (.mv rfl<|.ar rfl rfl (uc (by decide))<|.aq rfl<|.nil) rfl ?_
   obtain⟨v12,hp10,h⟩:=bind_some h
   refine .cd (fun i=>v12=i) (fun(i:Int)=>[(0,D.int .i64 v2),(2,D.ref 2 0),(3,D.ref 3 0),(4,D.int .i64 i)]) (fun(i:Int)=>[(2,Hp.box 35 ([D.bool false,D.nil])),(3,Hp.box 35 ([D.bool (decide (a1<0)),D.own 2000301])),(2000301,a_ (ak.int .i64) 3 v3)]) ?_ ?_
   ·have ho2:=h
    clear h
    have h:=hp10
    clear hp10
    refine .al (.mv rfl<|.cm rfl rfl rfl<|.nil) rfl ?_
    by_cases c11:(decide ((Int.tmod v2 10000)<0))=true
    ·replace h:=aa c11 h
     refine .cj rfl c11 ?_
     refine .region (.mv rfl<|.neg rfl rfl<|.aq rfl<|.nil) rfl (fun _ _ hs=>⟨(IntKind.i64.wrap (0-(Int.tmod v2 10000))),(Option.some.inj h).symm,hs.sub (.of rfl) (.of rfl) rfl rfl⟩)
    ·replace h:=ab c11 h
     refine .ck rfl c11 ?_
     refine .skip (fun _ _ hs=>⟨(Int.tmod v2 10000),(Option.some.inj h).symm,hs.sub (.of rfl) (.of rfl) rfl rfl⟩)
   ·rintro _ rfl
    try dsimp only
    obtain⟨k13,h⟩:=aw h
    refine .al (.fa rfl aB<|.bg (D.own 2000301) rfl rfl b6 rfl<|.mv rfl<|.zP (e:=(ak.int .i64)) [v12] [(0,_,D.int .i64 v12,[D.int .i64 v12])] fM rfl rfl rfl ⟨rfl,rfl,.one rfl,rfl,trivial⟩ ⟨rfl,trivial⟩ rfl rfl<|.yU (ys:=[v12]) rfl (.refl _) rfl (.refl _) rfl fM rfl k13.1 k13.2 rfl<|.fa rfl aB<|.w8 ([D.bool (decide (a1<0)),D.own 20]) rfl rfl rfl b6 rfl rfl rfl<|.nil) rfl ?_
    refine .region (.mv rfl<|.ar rfl rfl (vR (by decide))<|.aq rfl<|.nil) rfl (fun _ _ hs=>⟨((IntKind.i64.wrap (Int.tdiv v2 10000)),(v3++[v12])),(Option.some.inj h).symm,hs.nE (fun r=>match r with|2000301=>20|r=>r) ⟨⟨_,rfl,.refl rfl⟩,⟨_,rfl,.ref (r:=2)⟩,⟨_,rfl,.ref (r:=3)⟩,trivial⟩ ⟨⟨_,rfl,.refl rfl⟩,⟨_,rfl,.box ⟨.refl rfl,.own (r:=2000301),trivial⟩⟩,⟨_,rfl,.refl rfl⟩,trivial⟩ rfl rfl rfl⟩)
  ·replace h:=ab c8 h
   refine .ck rfl c8 ?_
   refine .exit (fun _ _ hs=>⟨_,(Option.some.inj h).symm,fun e=>⟨v3,e.symm,hs.sub (.of rfl) (.of rfl) rfl rfl⟩⟩)
 ·rintro _ rfl
  try dsimp only
  refine .al (.b_ ([D.bool (decide (a1<0)),D.own 2000301]) rfl rfl ax rfl rfl<|.cH ([D.bool (decide (a1<0)),D.own 2000301]) rfl rfl rfl ax rfl rfl rfl<|.nil) rfl ?_
  refine .FK 2 1 ([D.bool (decide (a1<0)),ag (ak.int .i64) v14]) rfl rfl rfl rfl rfl ?_
  cases h
  refine .aH (fun _ _ hb=>hb) rfl (.cons (.agg rfl rfl ax rfl) .nil) (.refl _) trivial trivial
def j_(a1:List Int)(a2:List Int)(v7:Int):Option (St Int (Ex Unit Int)):=(if(decide (v7>=0))=true then(ix a1 v7).bind fun v13=>(ix a2 v7).bind fun v15=>(if(v13 !=v15)=true then(ix a1 v7).bind fun v18=>(ix a2 v7).bind fun v20=>(if(decide (v18<v20))=true then some (St.done (Ex.ret (-1)))else some (St.done (Ex.ret 1)))else some (St.next (IntKind.i64.wrap (v7-1))))else some (St.done (Ex.da ())))
def jL(a1:List Int)(a2:List Int):Option Int:=(if((a1.length:Int) !=(a2.length:Int))=true then(if(decide ((a1.length:Int)<(a2.length:Int)))=true then some (-1)else some 1)else((Loop (fun(s:Int)=>j_ a1 a2 s) (IntKind.i64.wrap ((a1.length:Int)-1))).bind fun o8=>(match o8 with|Ex.da ()=>some (Ex.da ())|Ex.ret r23=>some (Ex.ret r23))).bind fun o5=>(match o5 with|Ex.da ()=>some 0|Ex.ret r24=>some r24))
theorem qH{a1:List Int}{a2:List Int}{r25:Int}(h:jL a1 a2=some r25):aS PP 218 [] [ag (ak.int .i64) a1,ag (ak.int .i64) a2] [] (D.int .i64 r25):=by
 unfold jL at h
 refine .of Go.Proofs.Tryz.func218 rfl (by kernel_rfl) rfl rfl rfl rfl rfl rfl (fun A w0 L b=>?_)
 show Ok PP _ [(0,ag (ak.int .i64) a1),(1,ag (ak.int .i64) a2)] [] _ _
 refine .al (.aq rfl<|.nil) rfl ?_
 refine .sq ?_
 refine .al (.mv rfl<|.ep rfl ba<|.mv rfl<|.ep rfl ba<|.cm rfl rfl rfl<|.nil) rfl ?_
 by_cases c3:((a1.length:Int) !=(a2.length:Int))=true
 ·replace h:=aa c3 h
  refine .cj rfl c3 ?_
  refine .sq ?_
  refine .al (.mv rfl<|.ep rfl ba<|.mv rfl<|.ep rfl ba<|.cm rfl rfl rfl<|.nil) rfl ?_
  by_cases c4:(decide ((a1.length:Int)<(a2.length:Int)))=true
  ·replace h:=aa c4 h
   refine .cj rfl c4 ?_
   refine .al (.aq rfl<|.nil) rfl ?_
   cases h
   refine .aH (fun _ _ hb=>hb) rfl (.cons (.tmp rfl) .nil) (.refl _) trivial trivial
  ·replace h:=ab c4 h
   refine .ck rfl c4 ?_
   refine .skip (Ok.on ?_)
   refine .al (.aq rfl<|.nil) rfl ?_
   cases h
   refine .aH (fun _ _ hb=>hb) rfl (.cons (.tmp rfl) .nil) (.refl _) trivial trivial
 ·replace h:=ab c3 h
  refine .ck rfl c3 ?_
  refine .skip (Ok.on ?_)
  obtain⟨o5,hp6,h⟩:=bind_some h
  refine .cd (fun i=>o5=Ex.da i) (fun(i:Unit)=>[]) (fun(i:Unit)=>[]) ?_ ?_
  ·have ho1:=h
   clear h
   have h:=hp6
   clear hp6
   refine .al (.mv rfl<|.ep rfl ba<|.ar rfl rfl rfl<|.aq rfl<|.nil) rfl ?_
   obtain⟨o8,hl9,h⟩:=bind_some h
   have ho2:=h
   clear h
   refine .block (.b8 (fun(s:Int)=>[(0,ag (ak.int .i64) a1),(1,ag (ak.int .i64) a2),(5,D.int .i64 s)]) (fun(s:Int)=>[]) hl9 (.of rfl) trivial rfl rfl ?_)
   rintro v7 st10 hb11
   have h:j_ a1 a2 v7=some st10:=hb11
   clear hb11
   unfold j_ at h
   try dsimp only
   refine .sq ?_
   refine .al (.mv rfl<|.cm rfl rfl rfl<|.nil) rfl ?_
   by_cases c12:(decide (v7>=0))=true
   ·replace h:=aa c12 h
    refine .cj rfl c12 ?_
    refine .skip (Ok.on ?_)
    refine .sq ?_
    refine .block ?_
    obtain⟨v13,e14,h⟩:=bind_some h
    obtain⟨v15,e16,h⟩:=bind_some h
    refine .dc cg (.mv rfl<|.mv rfl<|.ko rfl rfl cy (af e14).1 (af e14).2<|.gC rfl cB<|.mv rfl<|.mv rfl<|.ko rfl rfl cy (af e16).1 (af e16).2<|.gC rfl cB<|.cm rfl rfl rfl<|.nil) rfl (by kernel_rfl) ?_
    by_cases c17:(v13 !=v15)=true
    ·replace h:=aa c17 h
     refine .cj rfl c17 ?_
     refine .sq ?_
     obtain⟨v18,e19,h⟩:=bind_some h
     obtain⟨v20,e21,h⟩:=bind_some h
     refine .dc cg (.mv rfl<|.mv rfl<|.ko rfl rfl cy (af e19).1 (af e19).2<|.gC rfl cB<|.mv rfl<|.mv rfl<|.ko rfl rfl cy (af e21).1 (af e21).2<|.gC rfl cB<|.cm rfl rfl rfl<|.nil) rfl (by kernel_rfl) ?_
     by_cases c22:(decide (v18<v20))=true
     ·replace h:=aa c22 h
      refine .cj rfl c22 ?_
      refine .al (.aq rfl<|.nil) rfl ?_
      refine .aH (Hi:=[]) (Ho:=[]) (b:=b) (fn:=Go.Proofs.Tryz.f218) (d:=D.int .i64 (-1)) (fun _ _ hb=>by exact⟨_,(Option.some.inj h).symm,fun e=>by subst e;have h:=ho2;cases h;have h:=ho1;cases h;exact hb⟩) rfl (.cons (.tmp rfl) .nil) (.refl _) trivial trivial
     ·replace h:=ab c22 h
      refine .ck rfl c22 ?_
      refine .skip (Ok.on ?_)
      refine .al (.aq rfl<|.nil) rfl ?_
      refine .aH (Hi:=[]) (Ho:=[]) (b:=b) (fn:=Go.Proofs.Tryz.f218) (d:=D.int .i64 1) (fun _ _ hb=>by exact⟨_,(Option.some.inj h).symm,fun e=>by subst e;have h:=ho2;cases h;have h:=ho1;cases h;exact hb⟩) rfl (.cons (.tmp rfl) .nil) (.refl _) trivial trivial
    ·replace h:=ab c17 h
     refine .ck rfl c17 ?_
     refine .skip (Ok.on ?_)
     refine .region (.mv rfl<|.ar rfl rfl rfl<|.aq rfl<|.nil) rfl (fun _ _ hs=>⟨(IntKind.i64.wrap (v7-1)),(Option.some.inj h).symm,hs.sub (.of rfl) trivial rfl rfl⟩)
   ·replace h:=ab c12 h
    refine .ck rfl c12 ?_
    refine .exit (fun a w hs=>⟨_,(Option.some.inj h).symm,fun e=>by subst e;have h:=ho2;exact aZ (⟨(),(Option.some.inj h).symm,hs.sub trivial trivial rfl rfl⟩)⟩)
  ·rintro⟨⟩ rfl
   try dsimp only
   refine .al (.aq rfl<|.nil) rfl ?_
   cases h
   refine .aH (fun _ _ hb=>hb) rfl (.cons (.tmp rfl) .nil) (.refl _) trivial trivial
def fX(a1:List Int)(a2:List Int)(v5:Int)(v6:Int)(v7:List Int):Option (St (Int×Int×(List Int)) (List Int)):=((if(decide (v6<(a1.length:Int)))=true then some (Ex.da ())else(if(decide (v6<(a2.length:Int)))=true then some (Ex.da ())else(if(decide (v5>0))=true then some (Ex.da ())else some (Ex.ret ()))))).bind fun o12=>(match o12 with|Ex.da ()=>((if(decide (v6<(a1.length:Int)))=true then(ix a1 v6).bind fun v20=>some ((IntKind.i64.wrap (v5+v20)))else some (v5))).bind fun v22=>((if(decide (v6<(a2.length:Int)))=true then(ix a2 v6).bind fun v26=>some ((IntKind.i64.wrap (v22+v26)))else some (v22))).bind fun v28=>bZ ((v7.length+([(Int.tmod v28 10000)]).length)*8<=140737488355328/\v7.length+([(Int.tmod v28 10000)]).length<=9223372036854775807) (some (St.next ((IntKind.i64.wrap (Int.tdiv v28 10000)),(IntKind.i64.wrap (v6+1)),(v7++[(Int.tmod v28 10000)]))))|Ex.ret ()=>some (St.done v7))
def mo(a1:List Int)(a2:List Int):Option (List Int):=((Loop (fun(s:Int×Int×(List Int))=>fX a1 a2 s.1 s.2.1 s.2.2) (0,0,[])).bind fun v30=>some (v30)).bind fun v31=>some v31
theorem By{a1:List Int}{a2:List Int}{r32:List Int}(h:mo a1 a2=some r32):aS PP 217 [] [ag (ak.int .i64) a1,ag (ak.int .i64) a2] [] (ag (ak.int .i64) r32):=by
 unfold mo at h
 refine .of Go.Proofs.Tryz.func217 rfl (by kernel_rfl) rfl rfl rfl rfl rfl rfl (fun A w0 L b=>?_)
 show Ok PP _ [(0,ag (ak.int .i64) a1),(1,ag (ak.int .i64) a2)] [] _ _
 refine .al (.aq rfl<|.nil) rfl ?_
 refine .al (.aq rfl<|.nil) rfl ?_
 refine .al (.aq rfl<|.nil) rfl ?_
 obtain⟨v31,hp4,h⟩:=bind_some h
 refine .cd (fun i=>v31=i) (fun(i:(List Int))=>[(5,D.own 2000005)]) (fun(i:(List Int))=>[(2000005,a_ (ak.int .i64) 3 i)]) ?_ ?_
 ·have ho1:=h
  clear h
  have h:=hp4
  clear hp4
  refine .al (.aq rfl<|.nil) rfl ?_
  refine .jJ (ak.int .i64) 5 2000005 3 rfl rfl ?_
  obtain⟨o8,hl9,h⟩:=bind_some h
  have ho2:=h
  clear h
  refine .block (.b8 (fun(s:Int×Int×(List Int))=>[(0,ag (ak.int .i64) a1),(1,ag (ak.int .i64) a2),(5,D.own 2000005),(6,D.int .i64 s.1),(7,D.int .i64 s.2.1)]) (fun(s:Int×Int×(List Int))=>[(2000005,a_ (ak.int .i64) 3 s.2.2)]) hl9 (.of rfl) (.of rfl) rfl rfl ?_)
  rintro⟨v5,v6,v7⟩ st10 hb11
  have h:fX a1 a2 v5 v6 v7=some st10:=hb11
  clear hb11
  unfold fX at h
  try dsimp only
  obtain⟨o12,hp13,h⟩:=bind_some h
  refine .cd (fun i=>o12=Ex.da i) (fun(i:Unit)=>[(0,ag (ak.int .i64) a1),(1,ag (ak.int .i64) a2),(5,D.own 2000005),(6,D.int .i64 v5),(7,D.int .i64 v6)]) (fun(i:Unit)=>[(2000005,a_ (ak.int .i64) 3 v7)]) ?_ ?_
  ·have ho3:=h
   clear h
   have h:=hp13
   clear hp13
   by_cases c14:(decide (v6<(a1.length:Int)))=true
   ·replace h:=aa c14 h
    refine .al (.mv rfl<|.mv rfl<|.ep rfl ba<|.cm rfl rfl rfl<|.mv rfl<|.eQ rfl rfl rfl c14<|.eQ rfl rfl rfl c14<|.eQ rfl rfl rfl c14<|.eQ rfl rfl rfl c14<|.bn rfl c14 rfl<|.mv rfl<|.eQ rfl rfl rfl rfl<|.eQ rfl rfl rfl rfl<|.bn rfl rfl rfl<|.nil) rfl ?_
    refine .cj rfl rfl ?_
    refine .skip (fun _ _ hs=>⟨(),(Option.some.inj h).symm,hs.sub (.of rfl) (.of rfl) rfl rfl⟩)
   ·replace h:=ab c14 h
    by_cases c15:(decide (v6<(a2.length:Int)))=true
    ·replace h:=aa c15 h
     refine .al (.mv rfl<|.mv rfl<|.ep rfl ba<|.cm rfl rfl rfl<|.mv rfl<|.dn rfl rfl rfl c14<|.mv rfl<|.dn rfl rfl rfl c14<|.mv rfl<|.dn rfl rfl rfl c14<|.ep rfl ba<|.dn rfl rfl rfl c14<|.cm rfl rfl rfl<|.bm rfl c14 rfl<|.mv rfl<|.eQ rfl rfl rfl c15<|.eQ rfl rfl rfl c15<|.bn rfl c15 rfl<|.nil) rfl ?_
     refine .cj rfl rfl ?_
     refine .skip (fun _ _ hs=>⟨(),(Option.some.inj h).symm,hs.sub (.of rfl) (.of rfl) rfl rfl⟩)
    ·replace h:=ab c15 h
     refine .al (.mv rfl<|.mv rfl<|.ep rfl ba<|.cm rfl rfl rfl<|.mv rfl<|.dn rfl rfl rfl c14<|.mv rfl<|.dn rfl rfl rfl c14<|.mv rfl<|.dn rfl rfl rfl c14<|.ep rfl ba<|.dn rfl rfl rfl c14<|.cm rfl rfl rfl<|.bm rfl c14 rfl<|.mv rfl<|.dn rfl rfl rfl c15<|.mv rfl<|.dn rfl rfl rfl c15<|.cm rfl rfl rfl<|.bm rfl c15 rfl<|.nil) rfl ?_
     by_cases c16:(decide (v5>0))=true
     ·replace h:=aa c16 h
      refine .cj rfl c16 ?_
      refine .skip (fun _ _ hs=>⟨(),(Option.some.inj h).symm,hs.sub (.of rfl) (.of rfl) rfl rfl⟩)
     ·replace h:=ab c16 h
      refine .ck rfl c16 ?_
      cases h
      have h:=ho3
      clear ho3
      refine .exit (fun a w hs=>⟨_,(Option.some.inj h).symm,fun e=>by subst e;have h:=ho2;exact aZ (⟨v7,(Option.some.inj h).symm,hs.sub (.of rfl) (.of rfl) rfl rfl⟩)⟩)
  ·rintro⟨⟩ rfl
   try dsimp only
   refine .sq ?_
   refine .block ?_
   obtain⟨v22,hp18,h⟩:=bind_some h
   refine .cd (fun i=>v22=i) (fun(i:Int)=>[(0,ag (ak.int .i64) a1),(1,ag (ak.int .i64) a2),(5,D.own 2000005),(6,D.int .i64 i),(7,D.int .i64 v6)]) (fun(i:Int)=>[(2000005,a_ (ak.int .i64) 3 v7)]) ?_ ?_
   ·have ho3:=h
    clear h
    have h:=hp18
    clear hp18
    refine .al (.mv rfl<|.mv rfl<|.ep rfl ba<|.cm rfl rfl rfl<|.nil) rfl ?_
    by_cases c19:(decide (v6<(a1.length:Int)))=true
    ·replace h:=aa c19 h
     refine .cj rfl c19 ?_
     obtain⟨v20,e21,h⟩:=bind_some h
     refine .region (.mv rfl<|.mv rfl<|.mv rfl<|.ko rfl rfl cy (af e21).1 (af e21).2<|.gC rfl cB<|.ar rfl rfl rfl<|.aq rfl<|.nil) rfl (fun _ _ hs=>⟨(IntKind.i64.wrap (v5+v20)),(Option.some.inj h).symm,hs.sub (.of rfl) (.of rfl) rfl rfl⟩)
    ·replace h:=ab c19 h
     refine .ck rfl c19 ?_
     refine .skip (fun _ _ hs=>⟨v5,(Option.some.inj h).symm,hs.sub (.of rfl) (.of rfl) rfl rfl⟩)
   ·rintro _ rfl
    try dsimp only
    obtain⟨v28,hp24,h⟩:=bind_some h
    refine .cd (fun i=>v28=i) (fun(i:Int)=>[(0,ag (ak.int .i64) a1),(1,ag (ak.int .i64) a2),(5,D.own 2000005),(6,D.int .i64 i),(7,D.int .i64 v6)]) (fun(i:Int)=>[(2000005,a_ (ak.int .i64) 3 v7)]) ?_ ?_
    ·have ho3:=h
     clear h
     have h:=hp24
     clear hp24
     refine .al (.mv rfl<|.mv rfl<|.ep rfl ba<|.cm rfl rfl rfl<|.nil) rfl ?_
     by_cases c25:(decide (v6<(a2.length:Int)))=true
     ·replace h:=aa c25 h
      refine .cj rfl c25 ?_
      obtain⟨v26,e27,h⟩:=bind_some h
      refine .region (.mv rfl<|.mv rfl<|.mv rfl<|.ko rfl rfl cy (af e27).1 (af e27).2<|.gC rfl cB<|.ar rfl rfl rfl<|.aq rfl<|.nil) rfl (fun _ _ hs=>⟨(IntKind.i64.wrap (v22+v26)),(Option.some.inj h).symm,hs.sub (.of rfl) (.of rfl) rfl rfl⟩)
     ·replace h:=ab c25 h
      refine .ck rfl c25 ?_
      refine .skip (fun _ _ hs=>⟨v22,(Option.some.inj h).symm,hs.sub (.of rfl) (.of rfl) rfl rfl⟩)
    ·rintro _ rfl
     try dsimp only
     refine .sl 5 rfl rfl rfl ?_
     obtain⟨k29,h⟩:=aw h
     refine .al (.mv rfl<|.mv rfl<|.ar rfl rfl (uc (by decide))<|.zP (e:=(ak.int .i64)) [(Int.tmod v28 10000)] [(0,_,D.int .i64 (Int.tmod v28 10000),[D.int .i64 (Int.tmod v28 10000)])] fM rfl rfl rfl ⟨rfl,rfl,.one rfl,rfl,trivial⟩ ⟨rfl,trivial⟩ rfl rfl<|.yU (ys:=[(Int.tmod v28 10000)]) rfl .sl rfl (.refl _) rfl fM rfl k29.1 k29.2 rfl<|.aq rfl<|.nil) rfl ?_
     refine .region (.mv rfl<|.ar rfl rfl (vR (by decide))<|.aq rfl<|.nil) rfl (Ok.on ?_)
     refine .region (.mv rfl<|.ar rfl rfl rfl<|.aq rfl<|.nil) rfl (fun _ _ hs=>⟨((IntKind.i64.wrap (Int.tdiv v28 10000)),(IntKind.i64.wrap (v6+1)),(v7++[(Int.tmod v28 10000)])),(Option.some.inj h).symm,hs.nE (fun r=>match r with|2000005=>48|r=>r) ⟨⟨_,rfl,.refl rfl⟩,⟨_,rfl,.refl rfl⟩,⟨_,rfl,.own (r:=2000005)⟩,⟨_,rfl,.refl rfl⟩,⟨_,rfl,.refl rfl⟩,trivial⟩ ⟨⟨_,rfl,.refl rfl⟩,trivial⟩ rfl rfl rfl⟩)
 ·rintro _ rfl
  try dsimp only
  refine .sl 5 rfl rfl rfl ?_
  refine .al (.mv rfl<|.aq rfl<|.nil) rfl ?_
  refine .rJ 4 (.own 2000005) rfl .sl ?_
  refine .kJ 4 rfl rfl rfl ?_
  cases h
  refine .aH (fun _ _ hb=>hb) rfl (.cons (.tmp rfl) .nil) (.refl _) trivial trivial
def fq(a1:List Int)(a2:List Int)(v5:Int)(v6:Int)(v7:List Int):Option (St (Int×Int×(List Int)) (List Int)):=(if(decide (v6<(a1.length:Int)))=true then(ix a1 v6).bind fun v13=>((if(decide (v6<(a2.length:Int)))=true then(ix a2 v6).bind fun v18=>some ((IntKind.i64.wrap ((IntKind.i64.wrap (v13-v5))-v18)))else some ((IntKind.i64.wrap (v13-v5))))).bind fun v20=>((if(decide (v20<0))=true then some ((1,(IntKind.i64.wrap (v20+10000))))else some ((0,v20)))).bind fun(v24,v25)=>bZ ((v7.length+([v25]).length)*8<=140737488355328/\v7.length+([v25]).length<=9223372036854775807) (some (St.next (v24,(IntKind.i64.wrap (v6+1)),(v7++[v25]))))else some (St.done v7))
def ic(a1:List Int)(a2:List Int):Option (List Int):=((Loop (fun(s:Int×Int×(List Int))=>fq a1 a2 s.1 s.2.1 s.2.2) (0,0,[])).bind fun v27=>some (v27)).bind fun v28=>(iE v28).bind fun v29=>some v29
theorem mW{a1:List Int}{a2:List Int}{r31:List Int}(h:ic a1 a2=some r31):aS PP 219 [] [ag (ak.int .i64) a1,ag (ak.int .i64) a2] [] (ag (ak.int .i64) r31):=by
 unfold ic at h
 refine .of Go.Proofs.Tryz.func219 rfl (by kernel_rfl) rfl rfl rfl rfl rfl rfl (fun A w0 L b=>?_)
 show Ok PP _ [(0,ag (ak.int .i64) a1),(1,ag (ak.int .i64) a2)] [] _ _
 refine .al (.aq rfl<|.nil) rfl ?_
 refine .al (.aq rfl<|.nil) rfl ?_
 refine .al (.aq rfl<|.nil) rfl ?_
 obtain⟨v28,hp4,h⟩:=bind_some h
 refine .cd (fun i=>v28=i) (fun(i:(List Int))=>[(5,D.own 2000005)]) (fun(i:(List Int))=>[(2000005,a_ (ak.int .i64) 3 i)]) ?_ ?_
 ·have ho1:=h
  clear h
  have h:=hp4
  clear hp4
  refine .al (.aq rfl<|.nil) rfl ?_
  refine .jJ (ak.int .i64) 5 2000005 3 rfl rfl ?_
  obtain⟨o8,hl9,h⟩:=bind_some h
  have ho2:=h
  clear h
  refine .block (.b8 (fun(s:Int×Int×(List Int))=>[(0,ag (ak.int .i64) a1),(1,ag (ak.int .i64) a2),(5,D.own 2000005),(6,D.int .i64 s.1),(7,D.int .i64 s.2.1)]) (fun(s:Int×Int×(List Int))=>[(2000005,a_ (ak.int .i64) 3 s.2.2)]) hl9 (.of rfl) (.of rfl) rfl rfl ?_)
  rintro⟨v5,v6,v7⟩ st10 hb11
  have h:fq a1 a2 v5 v6 v7=some st10:=hb11
  clear hb11
  unfold fq at h
  try dsimp only
  refine .sq ?_
  refine .al (.mv rfl<|.mv rfl<|.ep rfl ba<|.cm rfl rfl rfl<|.nil) rfl ?_
  by_cases c12:(decide (v6<(a1.length:Int)))=true
  ·replace h:=aa c12 h
   refine .cj rfl c12 ?_
   refine .skip (Ok.on ?_)
   refine .sq ?_
   refine .block ?_
   obtain⟨v13,e14,h⟩:=bind_some h
   refine .al (.mv rfl<|.mv rfl<|.ko rfl rfl cy (af e14).1 (af e14).2<|.gC rfl cB<|.mv rfl<|.ar rfl rfl rfl<|.aq rfl<|.nil) rfl ?_
   obtain⟨v20,hp16,h⟩:=bind_some h
   refine .cd (fun i=>v20=i) (fun(i:Int)=>[(0,ag (ak.int .i64) a1),(1,ag (ak.int .i64) a2),(5,D.own 2000005),(7,D.int .i64 v6),(8,D.int .i64 i)]) (fun(i:Int)=>[(2000005,a_ (ak.int .i64) 3 v7)]) ?_ ?_
   ·have ho3:=h
    clear h
    have h:=hp16
    clear hp16
    refine .al (.mv rfl<|.mv rfl<|.ep rfl ba<|.cm rfl rfl rfl<|.nil) rfl ?_
    by_cases c17:(decide (v6<(a2.length:Int)))=true
    ·replace h:=aa c17 h
     refine .cj rfl c17 ?_
     obtain⟨v18,e19,h⟩:=bind_some h
     refine .region (.mv rfl<|.mv rfl<|.mv rfl<|.ko rfl rfl cy (af e19).1 (af e19).2<|.gC rfl cB<|.ar rfl rfl rfl<|.aq rfl<|.nil) rfl (fun _ _ hs=>⟨(IntKind.i64.wrap ((IntKind.i64.wrap (v13-v5))-v18)),(Option.some.inj h).symm,hs.sub (.of rfl) (.of rfl) rfl rfl⟩)
    ·replace h:=ab c17 h
     refine .ck rfl c17 ?_
     refine .skip (fun _ _ hs=>⟨(IntKind.i64.wrap (v13-v5)),(Option.some.inj h).symm,hs.sub (.of rfl) (.of rfl) rfl rfl⟩)
   ·rintro _ rfl
    try dsimp only
    refine .al (.aq rfl<|.nil) rfl ?_
    obtain⟨o21,hp22,h⟩:=bind_some h
    refine .cd (fun i=>o21=i) (fun(i:Int×Int)=>[(0,ag (ak.int .i64) a1),(1,ag (ak.int .i64) a2),(5,D.own 2000005),(6,D.int .i64 i.1),(7,D.int .i64 v6),(8,D.int .i64 i.2)]) (fun(i:Int×Int)=>[(2000005,a_ (ak.int .i64) 3 v7)]) ?_ ?_
    ·have ho3:=h
     clear h
     have h:=hp22
     clear hp22
     refine .al (.mv rfl<|.cm rfl rfl rfl<|.nil) rfl ?_
     by_cases c23:(decide (v20<0))=true
     ·replace h:=aa c23 h
      refine .cj rfl c23 ?_
      refine .al (.mv rfl<|.ar rfl rfl rfl<|.aq rfl<|.nil) rfl ?_
      refine .region (.aq rfl<|.nil) rfl (fun _ _ hs=>⟨(1,(IntKind.i64.wrap (v20+10000))),(Option.some.inj h).symm,hs.sub (.of rfl) (.of rfl) rfl rfl⟩)
     ·replace h:=ab c23 h
      refine .ck rfl c23 ?_
      refine .skip (fun _ _ hs=>⟨(0,v20),(Option.some.inj h).symm,hs.sub (.of rfl) (.of rfl) rfl rfl⟩)
    ·rintro⟨v24,v25⟩ rfl
     try dsimp only
     refine .sl 5 rfl rfl rfl ?_
     obtain⟨k26,h⟩:=aw h
     refine .region (.mv rfl<|.mv rfl<|.zP (e:=(ak.int .i64)) [v25] [(0,_,D.int .i64 v25,[D.int .i64 v25])] fM rfl rfl rfl ⟨rfl,rfl,.one rfl,rfl,trivial⟩ ⟨rfl,trivial⟩ rfl rfl<|.yU (ys:=[v25]) rfl .sl rfl (.refl _) rfl fM rfl k26.1 k26.2 rfl<|.aq rfl<|.nil) rfl (Ok.on ?_)
     refine .region (.mv rfl<|.ar rfl rfl rfl<|.aq rfl<|.nil) rfl (fun _ _ hs=>⟨(v24,(IntKind.i64.wrap (v6+1)),(v7++[v25])),(Option.some.inj h).symm,hs.nE (fun r=>match r with|2000005=>38|r=>r) ⟨⟨_,rfl,.refl rfl⟩,⟨_,rfl,.refl rfl⟩,⟨_,rfl,.own (r:=2000005)⟩,⟨_,rfl,.refl rfl⟩,⟨_,rfl,.refl rfl⟩,trivial⟩ ⟨⟨_,rfl,.refl rfl⟩,trivial⟩ rfl rfl rfl⟩)
  ·replace h:=ab c12 h
   refine .ck rfl c12 ?_
   refine .exit (fun a w hs=>⟨_,(Option.some.inj h).symm,fun e=>by subst e;have h:=ho2;exact aZ (⟨v7,(Option.some.inj h).symm,hs.sub (.of rfl) (.of rfl) rfl rfl⟩)⟩)
 ·rintro _ rfl
  try dsimp only
  refine .sl 5 rfl rfl rfl ?_
  refine .rJ 5 (.own 2000005) rfl .sl ?_
  refine .kJ 5 rfl rfl rfl ?_
  obtain⟨v29,e30,h⟩:=bind_some h
  refine .al (.mv rfl<|.ah (ou e30) ⟨rfl,trivial⟩ trivial trivial<|.aq rfl<|.nil) rfl ?_
  cases h
  refine .aH (fun _ _ hb=>hb) rfl (.cons (.tmp rfl) .nil) (.refl _) trivial trivial
def fA(a1:List Int)(a2:List Int)(v6:Int)(v15:Int)(v16:Int)(v17:List Int):Option (St (Int×Int×(List Int)) (List Int)):=((if(decide (v16<(a2.length:Int)))=true then some (Ex.da ())else(if(decide (v15>0))=true then some (Ex.da ())else some (Ex.ret ())))).bind fun o22=>(match o22 with|Ex.da ()=>(ix v17 (IntKind.i64.wrap (v6+v16))).bind fun v26=>((if(decide (v16<(a2.length:Int)))=true then(ix a1 v6).bind fun v31=>(ix a2 v16).bind fun v33=>some ((IntKind.i64.wrap ((IntKind.i64.wrap (v26+v15))+(IntKind.i64.wrap (v31*v33)))))else some ((IntKind.i64.wrap (v26+v15))))).bind fun v35=>(ix v17 (IntKind.i64.wrap (v6+v16))).bind fun v36=>some (St.next ((IntKind.i64.wrap (Int.tdiv v35 10000)),(IntKind.i64.wrap (v16+1)),(v17.set (IntKind.i64.wrap (v6+v16)).toNat (Int.tmod v35 10000))))|Ex.ret ()=>some (St.done v17))
def iI(a1:List Int)(a2:List Int)(v6:Int)(v7:List Int):Option (St (Int×(List Int)) (List Int)):=(if(decide (v6<(a1.length:Int)))=true then((Loop (fun(s:Int×Int×(List Int))=>fA a1 a2 v6 s.1 s.2.1 s.2.2) (0,0,v7)).bind fun v38=>some (v38)).bind fun v39=>some (St.next ((IntKind.i64.wrap (v6+1)),v39))else some (St.done v7))
def jW(a1:List Int)(a2:List Int):Option (List Int):=bZ ((0:Int)<=(IntKind.i64.wrap ((a1.length:Int)+(a2.length:Int)))/\(8:Int)*(IntKind.i64.wrap ((a1.length:Int)+(a2.length:Int)))<=281474976710656/\((IntKind.i64.wrap ((a1.length:Int)+(a2.length:Int))):Int)<=9223372036854775807) (((Loop (fun(s:Int×(List Int))=>iI a1 a2 s.1 s.2) (0,(List.replicate (IntKind.i64.wrap ((a1.length:Int)+(a2.length:Int))).toNat 0))).bind fun v40=>some (v40)).bind fun v41=>(iE v41).bind fun v42=>some v42)
theorem s9{a1:List Int}{a2:List Int}{r44:List Int}(h:jW a1 a2=some r44):aS PP 216 [] [ag (ak.int .i64) a1,ag (ak.int .i64) a2] [] (ag (ak.int .i64) r44):=by
 unfold jW at h
 refine .of Go.Proofs.Tryz.func216 rfl (by kernel_rfl) rfl rfl rfl rfl rfl rfl (fun A w0 L b=>?_)
 show Ok PP _ [(0,ag (ak.int .i64) a1),(1,ag (ak.int .i64) a2)] [] _ _
 refine .al (.aq rfl<|.nil) rfl ?_
 obtain⟨k3,h⟩:=aw h
 refine .al (.mv rfl<|.ep rfl ba<|.mv rfl<|.ep rfl ba<|.ar rfl rfl rfl<|.Fj (e:=(ak.int .i64)) 0 rfl rfl fM rfl ⟨.refl _,trivial⟩ k3.1 k3.2.1 k3.2.2 rfl<|.aq rfl<|.nil) rfl ?_
 obtain⟨v41,hp5,h⟩:=bind_some h
 refine .cd (fun i=>v41=i) (fun(i:(List Int))=>[(5,D.own 15)]) (fun(i:(List Int))=>[(15,a_ (ak.int .i64) 3 i)]) ?_ ?_
 ·have ho1:=h
  clear h
  have h:=hp5
  clear hp5
  refine .al (.aq rfl<|.nil) rfl ?_
  obtain⟨o8,hl9,h⟩:=bind_some h
  have ho2:=h
  clear h
  refine .block (.b8 (fun(s:Int×(List Int))=>[(0,ag (ak.int .i64) a1),(1,ag (ak.int .i64) a2),(5,D.own 15),(6,D.int .i64 s.1)]) (fun(s:Int×(List Int))=>[(15,a_ (ak.int .i64) 3 s.2)]) hl9 (.of rfl) (.of rfl) rfl rfl ?_)
  rintro⟨v6,v7⟩ st10 hb11
  have h:iI a1 a2 v6 v7=some st10:=hb11
  clear hb11
  unfold iI at h
  try dsimp only
  refine .sq ?_
  refine .al (.mv rfl<|.mv rfl<|.ep rfl ba<|.cm rfl rfl rfl<|.nil) rfl ?_
  by_cases c12:(decide (v6<(a1.length:Int)))=true
  ·replace h:=aa c12 h
   refine .cj rfl c12 ?_
   refine .skip (Ok.on ?_)
   obtain⟨v39,hp14,h⟩:=bind_some h
   refine .cd (fun i=>v39=i) (fun(i:(List Int))=>[(0,ag (ak.int .i64) a1),(1,ag (ak.int .i64) a2),(5,D.own 15),(6,D.int .i64 v6)]) (fun(i:(List Int))=>[(15,a_ (ak.int .i64) 3 i)]) ?_ ?_
   ·have ho3:=h
    clear h
    have h:=hp14
    clear hp14
    refine .block ?_
    refine .al (.aq rfl<|.nil) rfl ?_
    refine .al (.aq rfl<|.nil) rfl ?_
    obtain⟨o18,hl19,h⟩:=bind_some h
    have ho4:=h
    clear h
    refine .block (.b8 (fun(s:Int×Int×(List Int))=>[(0,ag (ak.int .i64) a1),(1,ag (ak.int .i64) a2),(5,D.own 15),(6,D.int .i64 v6),(7,D.int .i64 s.1),(8,D.int .i64 s.2.1)]) (fun(s:Int×Int×(List Int))=>[(15,a_ (ak.int .i64) 3 s.2.2)]) hl19 (.of rfl) (.of rfl) rfl rfl ?_)
    rintro⟨v15,v16,v17⟩ st20 hb21
    have h:fA a1 a2 v6 v15 v16 v17=some st20:=hb21
    clear hb21
    unfold fA at h
    try dsimp only
    obtain⟨o22,hp23,h⟩:=bind_some h
    refine .cd (fun i=>o22=Ex.da i) (fun(i:Unit)=>[(0,ag (ak.int .i64) a1),(1,ag (ak.int .i64) a2),(5,D.own 15),(6,D.int .i64 v6),(7,D.int .i64 v15),(8,D.int .i64 v16)]) (fun(i:Unit)=>[(15,a_ (ak.int .i64) 3 v17)]) ?_ ?_
    ·have ho5:=h
     clear h
     have h:=hp23
     clear hp23
     by_cases c24:(decide (v16<(a2.length:Int)))=true
     ·replace h:=aa c24 h
      refine .al (.mv rfl<|.mv rfl<|.ep rfl ba<|.cm rfl rfl rfl<|.mv rfl<|.eQ rfl rfl rfl c24<|.eQ rfl rfl rfl c24<|.bn rfl c24 rfl<|.nil) rfl ?_
      refine .cj rfl rfl ?_
      refine .skip (fun _ _ hs=>⟨(),(Option.some.inj h).symm,hs.sub (.of rfl) (.of rfl) rfl rfl⟩)
     ·replace h:=ab c24 h
      refine .al (.mv rfl<|.mv rfl<|.ep rfl ba<|.cm rfl rfl rfl<|.mv rfl<|.dn rfl rfl rfl c24<|.mv rfl<|.dn rfl rfl rfl c24<|.cm rfl rfl rfl<|.bm rfl c24 rfl<|.nil) rfl ?_
      by_cases c25:(decide (v15>0))=true
      ·replace h:=aa c25 h
       refine .cj rfl c25 ?_
       refine .skip (fun _ _ hs=>⟨(),(Option.some.inj h).symm,hs.sub (.of rfl) (.of rfl) rfl rfl⟩)
      ·replace h:=ab c25 h
       refine .ck rfl c25 ?_
       cases h
       have h:=ho5
       clear ho5
       refine .exit (fun a w hs=>⟨_,(Option.some.inj h).symm,fun e=>by subst e;have h:=ho4;exact aZ (⟨v17,(Option.some.inj h).symm,hs.sub (.of rfl) (.of rfl) rfl rfl⟩)⟩)
    ·rintro⟨⟩ rfl
     try dsimp only
     refine .sq ?_
     refine .block ?_
     refine .sl 5 rfl rfl rfl ?_
     obtain⟨v26,e27,h⟩:=bind_some h
     refine .al (.mv rfl<|.mv rfl<|.mv rfl<|.ar rfl rfl rfl<|.oH rfl rfl cy (af e27).1 (by have:=aW e27;have:=(af e27).1;(try simp only[List.length_set]at*);omega)<|.Gc rfl rfl cB rfl (af e27).2 rfl<|.mv rfl<|.ar rfl rfl rfl<|.aq rfl<|.nil) rfl ?_
     obtain⟨v35,hp29,h⟩:=bind_some h
     refine .cd (fun i=>v35=i) (fun(i:Int)=>[(0,ag (ak.int .i64) a1),(1,ag (ak.int .i64) a2),(5,D.own 15),(6,D.int .i64 v6),(8,D.int .i64 v16),(9,D.int .i64 i)]) (fun(i:Int)=>[(15,a_ (ak.int .i64) 3 v17)]) ?_ ?_
     ·have ho5:=h
      clear h
      have h:=hp29
      clear hp29
      refine .al (.mv rfl<|.mv rfl<|.ep rfl ba<|.cm rfl rfl rfl<|.nil) rfl ?_
      by_cases c30:(decide (v16<(a2.length:Int)))=true
      ·replace h:=aa c30 h
       refine .cj rfl c30 ?_
       obtain⟨v31,e32,h⟩:=bind_some h
       obtain⟨v33,e34,h⟩:=bind_some h
       refine .c_ cg (.mv rfl<|.mv rfl<|.mv rfl<|.ko rfl rfl cy (af e32).1 (af e32).2<|.gC rfl cB<|.mv rfl<|.mv rfl<|.ko rfl rfl cy (af e34).1 (af e34).2<|.gC rfl cB<|.ar rfl rfl rfl<|.ar rfl rfl rfl<|.aq rfl<|.nil) rfl (by kernel_rfl) (fun _ _ hs=>⟨(IntKind.i64.wrap ((IntKind.i64.wrap (v26+v15))+(IntKind.i64.wrap (v31*v33)))),(Option.some.inj h).symm,hs.sub ⟨⟨_,rfl,.refl _⟩,⟨_,rfl,.refl _⟩,⟨_,rfl,.sl⟩,⟨_,rfl,.refl _⟩,⟨_,rfl,.refl _⟩,⟨_,rfl,.refl _⟩,trivial⟩ (.of rfl) rfl rfl⟩)
      ·replace h:=ab c30 h
       refine .ck rfl c30 ?_
       refine .skip (fun _ _ hs=>⟨(IntKind.i64.wrap (v26+v15)),(Option.some.inj h).symm,hs.sub ⟨⟨_,rfl,.refl _⟩,⟨_,rfl,.refl _⟩,⟨_,rfl,.sl⟩,⟨_,rfl,.refl _⟩,⟨_,rfl,.refl _⟩,⟨_,rfl,.refl _⟩,trivial⟩ (.of rfl) rfl rfl⟩)
     ·rintro _ rfl
      try dsimp only
      refine .sl 5 rfl rfl rfl ?_
      obtain⟨v36,e37,h⟩:=bind_some h
      refine .al (.mv rfl<|.mv rfl<|.mv rfl<|.ar rfl rfl rfl<|.mv rfl<|.ar rfl rfl (uc (by decide))<|.oH rfl rfl cy (af e37).1 (by have:=aW e37;have:=(af e37).1;(try simp only[List.length_set]at*);omega)<|.CK (Int.tmod v35 10000) rfl rfl rfl cB rfl rfl rfl rfl (aW e37)<|.nil) rfl ?_
      refine .region (.mv rfl<|.ar rfl rfl (vR (by decide))<|.aq rfl<|.nil) rfl (Ok.on ?_)
      refine .region (.mv rfl<|.ar rfl rfl rfl<|.aq rfl<|.nil) rfl (fun _ _ hs=>⟨((IntKind.i64.wrap (Int.tdiv v35 10000)),(IntKind.i64.wrap (v16+1)),(v17.set (IntKind.i64.wrap (v6+v16)).toNat (Int.tmod v35 10000))),(Option.some.inj h).symm,hs.sub ⟨⟨_,rfl,.refl _⟩,⟨_,rfl,.refl _⟩,⟨_,rfl,.sl⟩,⟨_,rfl,.refl _⟩,⟨_,rfl,.refl _⟩,⟨_,rfl,.refl _⟩,trivial⟩ (.of rfl) rfl rfl⟩)
   ·rintro _ rfl
    try dsimp only
    refine .region (.mv rfl<|.ar rfl rfl rfl<|.aq rfl<|.nil) rfl (fun _ _ hs=>⟨((IntKind.i64.wrap (v6+1)),v39),(Option.some.inj h).symm,hs.sub (.of rfl) (.of rfl) rfl rfl⟩)
  ·replace h:=ab c12 h
   refine .ck rfl c12 ?_
   refine .exit (fun a w hs=>⟨_,(Option.some.inj h).symm,fun e=>by subst e;have h:=ho2;exact aZ (⟨v7,(Option.some.inj h).symm,hs.sub (.of rfl) (.of rfl) rfl rfl⟩)⟩)
 ·rintro _ rfl
  try dsimp only
  refine .sl 5 rfl rfl rfl ?_
  refine .rJ 5 (.own 15) rfl .sl ?_
  refine .kJ 5 rfl rfl rfl ?_
  obtain⟨v42,e43,h⟩:=bind_some h
  refine .al (.mv rfl<|.ah (ou e43) ⟨rfl,trivial⟩ trivial trivial<|.aq rfl<|.nil) rfl ?_
  cases h
  refine .aH (fun _ _ hb=>hb) rfl (.cons (.tmp rfl) .nil) (.refl _) trivial trivial
def fl(a1:List Int)(a2:Int)(v5:Int)(v6:Int):Option (St (Int×Int) Int):=(if(decide (v6>=a2))=true then(ix a1 v6).bind fun v12=>some (St.next ((IntKind.i64.wrap ((IntKind.i64.wrap (v5*10000))+v12)),(IntKind.i64.wrap (v6-1))))else some (St.done v5))
def eV(a1:List Int)(a2:Int):Option Int:=((Loop (fun(s:Int×Int)=>fl a1 a2 s.1 s.2) (0,(IntKind.i64.wrap ((a1.length:Int)-1)))).bind fun v14=>some (v14)).bind fun v15=>some v15
theorem qf{a1:List Int}{a2:Int}{r16:Int}(h:eV a1 a2=some r16):aS PP 250 [] [ag (ak.int .i64) a1,D.int .i64 a2] [] (D.int .i64 r16):=by
 unfold eV at h
 refine .of Go.Proofs.Tryz.func250 rfl (by kernel_rfl) rfl rfl rfl rfl rfl rfl (fun A w0 L b=>?_)
 show Ok PP _ [(0,ag (ak.int .i64) a1),(1,D.int .i64 a2)] [] _ _
 refine .al (.aq rfl<|.nil) rfl ?_
 refine .al (.aq rfl<|.nil) rfl ?_
 obtain⟨v15,hp4,h⟩:=bind_some h
 refine .cd (fun i=>v15=i) (fun(i:Int)=>[(5,D.int .i64 i)]) (fun(i:Int)=>[]) ?_ ?_
 ·have ho1:=h
  clear h
  have h:=hp4
  clear hp4
  refine .al (.mv rfl<|.ep rfl ba<|.ar rfl rfl rfl<|.aq rfl<|.nil) rfl ?_
  obtain⟨o7,hl8,h⟩:=bind_some h
  have ho2:=h
  clear h
  refine .block (.b8 (fun(s:Int×Int)=>[(0,ag (ak.int .i64) a1),(1,D.int .i64 a2),(5,D.int .i64 s.1),(6,D.int .i64 s.2)]) (fun(s:Int×Int)=>[]) hl8 (.of rfl) trivial rfl rfl ?_)
  rintro⟨v5,v6⟩ st9 hb10
  have h:fl a1 a2 v5 v6=some st9:=hb10
  clear hb10
  unfold fl at h
  try dsimp only
  refine .sq ?_
  refine .al (.mv rfl<|.mv rfl<|.cm rfl rfl rfl<|.nil) rfl ?_
  by_cases c11:(decide (v6>=a2))=true
  ·replace h:=aa c11 h
   refine .cj rfl c11 ?_
   refine .skip (Ok.on ?_)
   refine .sq ?_
   refine .block ?_
   obtain⟨v12,e13,h⟩:=bind_some h
   refine .region (.mv rfl<|.ar rfl rfl rfl<|.mv rfl<|.mv rfl<|.ko rfl rfl cy (af e13).1 (af e13).2<|.gC rfl cB<|.ar rfl rfl rfl<|.aq rfl<|.nil) rfl (Ok.on ?_)
   refine .region (.mv rfl<|.ar rfl rfl rfl<|.aq rfl<|.nil) rfl (fun _ _ hs=>⟨((IntKind.i64.wrap ((IntKind.i64.wrap (v5*10000))+v12)),(IntKind.i64.wrap (v6-1))),(Option.some.inj h).symm,hs.sub (.of rfl) trivial rfl rfl⟩)
  ·replace h:=ab c11 h
   refine .ck rfl c11 ?_
   refine .exit (fun a w hs=>⟨_,(Option.some.inj h).symm,fun e=>by subst e;have h:=ho2;exact aZ (⟨v5,(Option.some.inj h).symm,hs.sub (.of rfl) trivial rfl rfl⟩)⟩)
 ·rintro _ rfl
  try dsimp only
  refine .al (.mv rfl<|.aq rfl<|.nil) rfl ?_
  cases h
  refine .aH (fun _ _ hb=>hb) rfl (.cons (.tmp rfl) .nil) (.refl _) trivial trivial
def hZ(a2:List Int)(v41:List Int)(v42:Int):Option (St ((List Int)×Int) ((List Int)×Int)):=(jL v41 a2).bind fun v47=>(if(decide (v47>=0))=true then(ic v41 a2).bind fun v50=>some (St.next (v50,(IntKind.i64.wrap (v42+1))))else some (St.done (v41,v42)))
def fW(a1:List Int)(a2:List Int)(v6:List Int)(v7:Int)(v8:List Int):Option (St ((List Int)×Int×(List Int)) ((List Int)×(List Int))):=(if(decide (v7>=0))=true then(ix a1 v7).bind fun v14=>bZ ((([v14]).length+v6.length)*8<=140737488355328/\([v14]).length+v6.length<=9223372036854775807) ((iE ([v14]++v6)).bind fun v17=>((if(decide ((a2.length:Int)<=3))=true then(eV v17 0).bind fun v22=>(eV a2 0).bind fun v24=>bZ ((v24:Int)≠0) (some ((IntKind.i64.wrap (Int.tdiv v22 v24))))else(if(decide ((v17.length:Int)>=(a2.length:Int)))=true then(eV v17 (IntKind.i64.wrap ((a2.length:Int)-3))).bind fun v28=>(eV a2 (IntKind.i64.wrap ((a2.length:Int)-3))).bind fun v30=>bZ (((IntKind.i64.wrap (v30+1)):Int)≠0) (some ((IntKind.i64.wrap (Int.tdiv v28 (IntKind.i64.wrap (v30+1))))))else some (0)))).bind fun v33=>(eY v33).bind fun(v34,v35)=>(jW a2 v35).bind fun v37=>(ic v17 v37).bind fun v39=>(Loop (fun(s:(List Int)×Int)=>hZ a2 s.1 s.2) (v39,v33)).bind fun(v52,v53)=>(ix v8 v7).bind fun v54=>some (St.next (v52,(IntKind.i64.wrap (v7-1)),(v8.set v7.toNat v53))))else some (St.done (v6,v8)))
def kg(a1:List Int)(a2:List Int):Option ((List Int)×(List Int)):=bZ ((0:Int)<=(a1.length:Int)/\(8:Int)*(a1.length:Int)<=281474976710656/\((a1.length:Int):Int)<=9223372036854775807) (((Loop (fun(s:(List Int)×Int×(List Int))=>fW a1 a2 s.1 s.2.1 s.2.2) ([],(IntKind.i64.wrap ((a1.length:Int)-1)),(List.replicate (a1.length:Int).toNat 0))).bind fun(v56,v57)=>some ((v56,v57))).bind fun(v58,v59)=>(iE v59).bind fun v60=>some (v60,v58))
theorem rz{a1:List Int}{a2:List Int}{r62:List Int}{r63:List Int}(h:kg a1 a2=some (r62,r63)):aS PP 221 [] [ag (ak.int .i64) a1,ag (ak.int .i64) a2] [] (D.iC [ag (ak.int .i64) r62,ag (ak.int .i64) r63]):=by
 unfold kg at h
 refine .of Go.Proofs.Tryz.func221 rfl (by kernel_rfl) rfl rfl rfl rfl rfl rfl (fun A w0 L b=>?_)
 show Ok PP _ [(0,ag (ak.int .i64) a1),(1,ag (ak.int .i64) a2)] [] _ _
 refine .al (.aq rfl<|.aq rfl<|.nil) rfl ?_
 refine .al (.aq rfl<|.nil) rfl ?_
 obtain⟨k3,h⟩:=aw h
 refine .al (.mv rfl<|.ep rfl ba<|.Fj (e:=(ak.int .i64)) 0 rfl rfl fM rfl ⟨.refl _,trivial⟩ k3.1 k3.2.1 k3.2.2 rfl<|.aq rfl<|.nil) rfl ?_
 obtain⟨o4,hp5,h⟩:=bind_some h
 refine .cd (fun i=>o4=i) (fun(i:(List Int)×(List Int))=>[(6,ag (ak.int .i64) i.1),(7,D.own 12)]) (fun(i:(List Int)×(List Int))=>[(12,a_ (ak.int .i64) 3 i.2)]) ?_ ?_
 ·have ho1:=h
  clear h
  have h:=hp5
  clear hp5
  refine .al (.mv rfl<|.ep rfl ba<|.ar rfl rfl rfl<|.aq rfl<|.nil) rfl ?_
  obtain⟨o9,hl10,h⟩:=bind_some h
  have ho2:=h
  clear h
  refine .block (.b8 (fun(s:(List Int)×Int×(List Int))=>[(0,ag (ak.int .i64) a1),(1,ag (ak.int .i64) a2),(6,ag (ak.int .i64) s.1),(7,D.own 12),(8,D.int .i64 s.2.1)]) (fun(s:(List Int)×Int×(List Int))=>[(12,a_ (ak.int .i64) 3 s.2.2)]) hl10 ⟨⟨_,rfl,.refl _⟩,⟨_,rfl,.refl _⟩,⟨_,rfl,.jJ _⟩,⟨_,rfl,.refl _⟩,⟨_,rfl,.refl _⟩,trivial⟩ (.of rfl) rfl rfl ?_)
  rintro⟨v6,v7,v8⟩ st11 hb12
  have h:fW a1 a2 v6 v7 v8=some st11:=hb12
  clear hb12
  unfold fW at h
  try dsimp only
  refine .sq ?_
  refine .al (.mv rfl<|.cm rfl rfl rfl<|.nil) rfl ?_
  by_cases c13:(decide (v7>=0))=true
  ·replace h:=aa c13 h
   refine .cj rfl c13 ?_
   refine .skip (Ok.on ?_)
   refine .sq ?_
   refine .block ?_
   obtain⟨v14,e15,h⟩:=bind_some h
   obtain⟨k16,h⟩:=aw h
   obtain⟨v17,e18,h⟩:=bind_some h
   refine .al (.mv rfl<|.mv rfl<|.ko rfl rfl cy (af e15).1 (af e15).2<|.gC rfl cB<|.GU (e:=(ak.int .i64)) [v14] [(0,_,D.int .i64 v14,[D.int .i64 v14])] fM rfl rfl rfl ⟨rfl,rfl,.one rfl,rfl,trivial⟩ ⟨rfl,trivial⟩ rfl rfl rfl<|.mv rfl<|.gv (e:=(ak.int .i64)) (xs:=([v14]++v6)) (.yU (ys:=v6) rfl (.refl _) rfl (.refl _) rfl fM rfl k16.1 k16.2 rfl<|.nil) rfl rfl rfl rfl<|.ah (ou e18) ⟨rfl,trivial⟩ trivial trivial<|.aq rfl<|.nil) rfl ?_
   refine .al (.aq rfl<|.nil) rfl ?_
   obtain⟨v33,hp20,h⟩:=bind_some h
   refine .cd (fun i=>v33=i) (fun(i:Int)=>[(0,ag (ak.int .i64) a1),(1,ag (ak.int .i64) a2),(6,ag (ak.int .i64) v17),(7,D.own 12),(8,D.int .i64 v7),(9,D.int .i64 i)]) (fun(i:Int)=>[(12,a_ (ak.int .i64) 3 v8)]) ?_ ?_
   ·have ho3:=h
    clear h
    have h:=hp20
    clear hp20
    refine .al (.mv rfl<|.ep rfl ba<|.cm rfl rfl rfl<|.nil) rfl ?_
    by_cases c21:(decide ((a2.length:Int)<=3))=true
    ·replace h:=aa c21 h
     refine .cj rfl c21 ?_
     obtain⟨v22,e23,h⟩:=bind_some h
     obtain⟨v24,e25,h⟩:=bind_some h
     obtain⟨k26,h⟩:=aw h
     refine .region (.mv rfl<|.ah (qf e23) ⟨rfl,rfl,trivial⟩ trivial trivial<|.mv rfl<|.ah (qf e25) ⟨rfl,rfl,trivial⟩ trivial trivial<|.ar rfl rfl (vR k26)<|.aq rfl<|.nil) rfl (fun _ _ hs=>⟨(IntKind.i64.wrap (Int.tdiv v22 v24)),(Option.some.inj h).symm,hs.sub (.of rfl) (.of rfl) rfl rfl⟩)
    ·replace h:=ab c21 h
     refine .ck rfl c21 ?_
     refine .al (.mv rfl<|.ep rfl ba<|.mv rfl<|.ep rfl ba<|.cm rfl rfl rfl<|.nil) rfl ?_
     by_cases c27:(decide ((v17.length:Int)>=(a2.length:Int)))=true
     ·replace h:=aa c27 h
      refine .cj rfl c27 ?_
      obtain⟨v28,e29,h⟩:=bind_some h
      obtain⟨v30,e31,h⟩:=bind_some h
      obtain⟨k32,h⟩:=aw h
      refine .region (.mv rfl<|.mv rfl<|.ep rfl ba<|.ar rfl rfl rfl<|.ah (qf e29) ⟨rfl,rfl,trivial⟩ trivial trivial<|.mv rfl<|.mv rfl<|.ep rfl ba<|.ar rfl rfl rfl<|.ah (qf e31) ⟨rfl,rfl,trivial⟩ trivial trivial<|.ar rfl rfl rfl<|.ar rfl rfl (vR k32)<|.aq rfl<|.nil) rfl (fun _ _ hs=>⟨(IntKind.i64.wrap (Int.tdiv v28 (IntKind.i64.wrap (v30+1)))),(Option.some.inj h).symm,hs.sub (.of rfl) (.of rfl) rfl rfl⟩)
     ·replace h:=ab c27 h
      refine .ck rfl c27 ?_
      refine .skip (fun _ _ hs=>⟨0,(Option.some.inj h).symm,hs.sub (.of rfl) (.of rfl) rfl rfl⟩)
   ·rintro _ rfl
    try dsimp only
    obtain⟨⟨v34,v35⟩,e36,h⟩:=bind_some h
    obtain⟨v37,e38,h⟩:=bind_some h
    obtain⟨v39,e40,h⟩:=bind_some h
    refine .al (.mv rfl<|.mv rfl<|.mv rfl<|.ah (j6 e36) ⟨rfl,trivial⟩ trivial trivial<|.G7 rfl aB (t:=33) (by kernel_rfl) b6 rfl<|.ah (s9 e38) ⟨rfl,rfl,trivial⟩ trivial trivial<|.ah (mW e40) ⟨rfl,rfl,trivial⟩ trivial trivial<|.aq rfl<|.nil) rfl ?_
    obtain⟨o43,hl44,h⟩:=bind_some h
    refine .cd (fun i=>o43=i) (fun(i:(List Int)×Int)=>[(0,ag (ak.int .i64) a1),(1,ag (ak.int .i64) a2),(6,ag (ak.int .i64) i.1),(7,D.own 12),(8,D.int .i64 v7),(9,D.int .i64 i.2)]) (fun(i:(List Int)×Int)=>[(12,a_ (ak.int .i64) 3 v8)]) ?_ ?_
    ·have ho3:=h
     clear h
     refine .block (.b8 (fun(s:(List Int)×Int)=>[(0,ag (ak.int .i64) a1),(1,ag (ak.int .i64) a2),(6,ag (ak.int .i64) s.1),(7,D.own 12),(8,D.int .i64 v7),(9,D.int .i64 s.2)]) (fun(s:(List Int)×Int)=>[(12,a_ (ak.int .i64) 3 v8)]) hl44 (.of rfl) (.of rfl) rfl rfl ?_)
     rintro⟨v41,v42⟩ st45 hb46
     have h:hZ a2 v41 v42=some st45:=hb46
     clear hb46
     unfold hZ at h
     try dsimp only
     refine .sq ?_
     obtain⟨v47,e48,h⟩:=bind_some h
     refine .al (.mv rfl<|.mv rfl<|.ah (qH e48) ⟨rfl,rfl,trivial⟩ trivial trivial<|.cm rfl rfl rfl<|.nil) rfl ?_
     by_cases c49:(decide (v47>=0))=true
     ·replace h:=aa c49 h
      refine .cj rfl c49 ?_
      refine .skip (Ok.on ?_)
      refine .block ?_
      obtain⟨v50,e51,h⟩:=bind_some h
      refine .al (.mv rfl<|.mv rfl<|.ah (mW e51) ⟨rfl,rfl,trivial⟩ trivial trivial<|.aq rfl<|.nil) rfl ?_
      refine .region (.mv rfl<|.ar rfl rfl rfl<|.aq rfl<|.nil) rfl (fun _ _ hs=>⟨(v50,(IntKind.i64.wrap (v42+1))),(Option.some.inj h).symm,hs.sub (.of rfl) (.of rfl) rfl rfl⟩)
     ·replace h:=ab c49 h
      refine .ck rfl c49 ?_
      refine .exit (fun _ _ hs=>⟨_,(Option.some.inj h).symm,fun e=>⟨(v41,v42),e.symm,hs.sub (.of rfl) (.of rfl) rfl rfl⟩⟩)
    ·rintro⟨v52,v53⟩ rfl
     try dsimp only
     refine .sl 7 rfl rfl rfl ?_
     obtain⟨v54,e55,h⟩:=bind_some h
     refine .region (.mv rfl<|.mv rfl<|.mv rfl<|.oH rfl rfl cy (af e55).1 (by have:=aW e55;have:=(af e55).1;(try simp only[List.length_set]at*);omega)<|.CK v53 rfl rfl rfl cB rfl rfl rfl rfl (aW e55)<|.nil) rfl (Ok.on ?_)
     refine .region (.mv rfl<|.ar rfl rfl rfl<|.aq rfl<|.nil) rfl (fun _ _ hs=>⟨(v52,(IntKind.i64.wrap (v7-1)),(v8.set v7.toNat v53)),(Option.some.inj h).symm,hs.sub ⟨⟨_,rfl,.refl _⟩,⟨_,rfl,.refl _⟩,⟨_,rfl,.refl _⟩,⟨_,rfl,.sl⟩,⟨_,rfl,.refl _⟩,trivial⟩ (.of rfl) rfl rfl⟩)
  ·replace h:=ab c13 h
   refine .ck rfl c13 ?_
   refine .exit (fun a w hs=>⟨_,(Option.some.inj h).symm,fun e=>by subst e;have h:=ho2;exact aZ (⟨(v6,v8),(Option.some.inj h).symm,hs.sub (.of rfl) (.of rfl) rfl rfl⟩)⟩)
 ·rintro⟨v58,v59⟩ rfl
  try dsimp only
  refine .sl 7 rfl rfl rfl ?_
  refine .rJ 7 (.own 12) rfl .sl ?_
  refine .kJ 7 rfl rfl rfl ?_
  obtain⟨v60,e61,h⟩:=bind_some h
  refine .al (.mv rfl<|.ah (ou e61) ⟨rfl,trivial⟩ trivial trivial<|.mv rfl<|.aq rfl<|.aq rfl<|.nil) rfl ?_
  cases h
  refine .aH (fun _ _ hb=>hb) rfl (.cons (.tmp rfl) (.cons (.tmp rfl) .nil)) (.refl _) trivial trivial
def dJ(a1:Bool)(a2:List Int):Option (Bool×(List Int)):=(if a1=true then some ((decide ((a2.length:Int)>0)),a2)else some (false,a2))
theorem gZ{a1:Bool}{a2:List Int}{r4:Bool}{r5:List Int}(h:dJ a1 a2=some (r4,r5)):aS PP 181 [] [D.bool a1,ag (ak.int .i64) a2] [] (D.agg ([D.bool r4,ag (ak.int .i64) r5])):=by
 unfold dJ at h
 refine .of Go.Proofs.Tryz.func181 rfl (by kernel_rfl) rfl rfl rfl rfl rfl rfl (fun A w0 L b=>?_)
 show Ok PP _ [(0,D.bool a1),(1,ag (ak.int .i64) a2)] [] _ _
 refine .al (.gd ([D.bool false,D.nil]) bQ ⟨.refl _,.refl _,trivial⟩ rfl<|.nil) rfl ?_
 by_cases c3:a1=true
 ·replace h:=aa c3 h
  refine .al (.mv rfl<|.mv rfl<|.aV rfl rfl rfl c3<|.mv rfl<|.aV rfl rfl rfl c3<|.ep rfl ba<|.aV rfl rfl rfl c3<|.cm rfl rfl rfl<|.bn rfl c3 rfl<|.mv rfl<|.nW ([D.bool (decide ((a2.length:Int)>0)),ag (ak.int .i64) a2]) [(0,_,D.bool (decide ((a2.length:Int)>0)),[D.bool (decide ((a2.length:Int)>0))]),(1,_,ag (ak.int .i64) a2,[ag (ak.int .i64) a2])] bQ eG ⟨rfl,rfl,.one rfl,rfl,rfl,rfl,.one rfl,rfl,trivial⟩ ⟨rfl,rfl,trivial⟩ ⟨.refl _,.refl _,trivial⟩<|.cH ([D.bool (decide ((a2.length:Int)>0)),ag (ak.int .i64) a2]) rfl rfl rfl ax rfl rfl rfl<|.nil) rfl ?_
  cases h
  refine .aH (fun _ _ hb=>hb) rfl (.cons (.agg rfl rfl ax rfl) .nil) (.refl _) trivial trivial
 ·replace h:=ab c3 h
  refine .al (.mv rfl<|.mv rfl<|.aT rfl rfl rfl c3<|.aT rfl rfl rfl c3<|.aT rfl rfl rfl c3<|.bm rfl c3 rfl<|.mv rfl<|.nW ([D.bool false,ag (ak.int .i64) a2]) [(0,_,D.bool false,[D.bool false]),(1,_,ag (ak.int .i64) a2,[ag (ak.int .i64) a2])] bQ eG ⟨rfl,rfl,.one rfl,rfl,rfl,rfl,.one rfl,rfl,trivial⟩ ⟨rfl,rfl,trivial⟩ ⟨.refl _,.refl _,trivial⟩<|.cH ([D.bool false,ag (ak.int .i64) a2]) rfl rfl rfl ax rfl rfl rfl<|.nil) rfl ?_
  cases h
  refine .aH (fun _ _ hb=>hb) rfl (.cons (.agg rfl rfl ax rfl) .nil) (.refl _) trivial trivial
def j1(a1:Bool)(a2:List Int):Option (Bool×(List Int)):=(dJ (!a1) a2).bind fun(v3,v4)=>some (v3,v4)
theorem rf{a1:Bool}{a2:List Int}{r6:Bool}{r7:List Int}(h:j1 a1 a2=some (r6,r7)):aS PP 160 [] [D.agg ([D.bool a1,ag (ak.int .i64) a2])] [] (D.agg ([D.bool r6,ag (ak.int .i64) r7])):=by
 unfold j1 at h
 refine .of Go.Proofs.Tryz.func160 rfl (by kernel_rfl) rfl rfl rfl rfl rfl rfl (fun A w0 L b=>?_)
 show Ok PP _ [(0,D.agg ([D.bool a1,ag (ak.int .i64) a2]))] [] _ _
 refine .al (.ie rfl rfl<|.gd ([D.bool false,D.nil]) bQ ⟨.refl _,.refl _,trivial⟩ rfl<|.nil) rfl ?_
 obtain⟨⟨v3,v4⟩,e5,h⟩:=bind_some h
 refine .al (.fa rfl bu<|.bg (D.bool a1) rfl rfl bH rfl<|.not rfl<|.fa rfl aB<|.bg (ag (ak.int .i64) a2) rfl rfl b6 rfl<|.ah (gZ e5) ⟨rfl,rfl,trivial⟩ trivial trivial<|.cH ([D.bool v3,ag (ak.int .i64) v4]) rfl rfl rfl ax rfl rfl rfl<|.nil) rfl ?_
 cases h
 refine .aH (fun _ _ hb=>hb) rfl (.cons (.agg rfl rfl ax rfl) .nil) (.refl _) trivial trivial
def ma(a1:Bool)(a2:List Int)(a3:Bool)(a4:List Int):Option (Bool×(List Int)):=(if(a1==a3)=true then(mo a2 a4).bind fun v6=>(dJ a1 v6).bind fun(v8,v9)=>some (v8,v9)else(jL a2 a4).bind fun v11=>(if(decide (v11>=0))=true then(ic a2 a4).bind fun v14=>(dJ a1 v14).bind fun(v16,v17)=>some (v16,v17)else(ic a4 a2).bind fun v19=>(dJ a3 v19).bind fun(v21,v22)=>some (v21,v22)))
theorem AR{a1:Bool}{a2:List Int}{a3:Bool}{a4:List Int}{r24:Bool}{r25:List Int}(h:ma a1 a2 a3 a4=some (r24,r25)):aS PP 159 [] [D.agg ([D.bool a1,ag (ak.int .i64) a2]),D.agg ([D.bool a3,ag (ak.int .i64) a4])] [] (D.agg ([D.bool r24,ag (ak.int .i64) r25])):=by
 unfold ma at h
 refine .of Go.Proofs.Tryz.func159 rfl (by kernel_rfl) rfl rfl rfl rfl rfl rfl (fun A w0 L b=>?_)
 show Ok PP _ [(0,D.agg ([D.bool a1,ag (ak.int .i64) a2])),(1,D.agg ([D.bool a3,ag (ak.int .i64) a4]))] [] _ _
 refine .al (.ie rfl rfl<|.ie rfl rfl<|.gd ([D.bool false,D.nil]) bQ ⟨.refl _,.refl _,trivial⟩ rfl<|.nil) rfl ?_
 refine .sq ?_
 refine .al (.fa rfl bu<|.bg (D.bool a1) rfl rfl bH rfl<|.fa rfl bu<|.bg (D.bool a3) rfl rfl bH rfl<|.bc il rfl rfl rfl<|.nil) rfl ?_
 by_cases c5:(a1==a3)=true
 ·replace h:=aa c5 h
  refine .cj rfl c5 ?_
  obtain⟨v6,e7,h⟩:=bind_some h
  obtain⟨⟨v8,v9⟩,e10,h⟩:=bind_some h
  refine .dc cg (.fa rfl bu<|.bg (D.bool a1) rfl rfl bH rfl<|.fa rfl aB<|.bg (ag (ak.int .i64) a2) rfl rfl b6 rfl<|.fa rfl aB<|.bg (ag (ak.int .i64) a4) rfl rfl b6 rfl<|.ah (By e7) ⟨rfl,rfl,trivial⟩ trivial trivial<|.ah (gZ e10) ⟨rfl,rfl,trivial⟩ trivial trivial<|.cH ([D.bool v8,ag (ak.int .i64) v9]) rfl rfl rfl ax rfl rfl rfl<|.nil) rfl (by kernel_rfl) ?_
  cases h
  refine .aH (fun _ _ hb=>hb) rfl (.cons (.agg rfl rfl ax rfl) .nil) (.refl _) trivial trivial
 ·replace h:=ab c5 h
  refine .ck rfl c5 ?_
  refine .skip (Ok.on ?_)
  refine .sq ?_
  obtain⟨v11,e12,h⟩:=bind_some h
  refine .al (.fa rfl aB<|.bg (ag (ak.int .i64) a2) rfl rfl b6 rfl<|.fa rfl aB<|.bg (ag (ak.int .i64) a4) rfl rfl b6 rfl<|.ah (qH e12) ⟨rfl,rfl,trivial⟩ trivial trivial<|.cm rfl rfl rfl<|.nil) rfl ?_
  by_cases c13:(decide (v11>=0))=true
  ·replace h:=aa c13 h
   refine .cj rfl c13 ?_
   obtain⟨v14,e15,h⟩:=bind_some h
   obtain⟨⟨v16,v17⟩,e18,h⟩:=bind_some h
   refine .dc cg (.fa rfl bu<|.bg (D.bool a1) rfl rfl bH rfl<|.fa rfl aB<|.bg (ag (ak.int .i64) a2) rfl rfl b6 rfl<|.fa rfl aB<|.bg (ag (ak.int .i64) a4) rfl rfl b6 rfl<|.ah (mW e15) ⟨rfl,rfl,trivial⟩ trivial trivial<|.ah (gZ e18) ⟨rfl,rfl,trivial⟩ trivial trivial<|.cH ([D.bool v16,ag (ak.int .i64) v17]) rfl rfl rfl ax rfl rfl rfl<|.nil) rfl (by kernel_rfl) ?_
   cases h
   refine .aH (fun _ _ hb=>hb) rfl (.cons (.agg rfl rfl ax rfl) .nil) (.refl _) trivial trivial
  ·replace h:=ab c13 h
   refine .ck rfl c13 ?_
   refine .skip (Ok.on ?_)
   obtain⟨v19,e20,h⟩:=bind_some h
   obtain⟨⟨v21,v22⟩,e23,h⟩:=bind_some h
   refine .dc cg (.fa rfl bu<|.bg (D.bool a3) rfl rfl bH rfl<|.fa rfl aB<|.bg (ag (ak.int .i64) a4) rfl rfl b6 rfl<|.fa rfl aB<|.bg (ag (ak.int .i64) a2) rfl rfl b6 rfl<|.ah (mW e20) ⟨rfl,rfl,trivial⟩ trivial trivial<|.ah (gZ e23) ⟨rfl,rfl,trivial⟩ trivial trivial<|.cH ([D.bool v21,ag (ak.int .i64) v22]) rfl rfl rfl ax rfl rfl rfl<|.nil) rfl (by kernel_rfl) ?_
   cases h
   refine .aH (fun _ _ hb=>hb) rfl (.cons (.agg rfl rfl ax rfl) .nil) (.refl _) trivial trivial
def e_(a1:Bool)(a2:List Int)(a3:Bool)(a4:List Int):Option (Bool×(List Int)):=(jW a2 a4).bind fun v5=>(dJ (!(a1==a3)) v5).bind fun(v7,v8)=>some (v7,v8)
theorem kh{a1:Bool}{a2:List Int}{a3:Bool}{a4:List Int}{r10:Bool}{r11:List Int}(h:e_ a1 a2 a3 a4=some (r10,r11)):aS PP 158 [] [D.agg ([D.bool a1,ag (ak.int .i64) a2]),D.agg ([D.bool a3,ag (ak.int .i64) a4])] [] (D.agg ([D.bool r10,ag (ak.int .i64) r11])):=by
 unfold e_ at h
 refine .of Go.Proofs.Tryz.func158 rfl (by kernel_rfl) rfl rfl rfl rfl rfl rfl (fun A w0 L b=>?_)
 show Ok PP _ [(0,D.agg ([D.bool a1,ag (ak.int .i64) a2])),(1,D.agg ([D.bool a3,ag (ak.int .i64) a4]))] [] _ _
 refine .al (.ie rfl rfl<|.ie rfl rfl<|.gd ([D.bool false,D.nil]) bQ ⟨.refl _,.refl _,trivial⟩ rfl<|.nil) rfl ?_
 obtain⟨v5,e6,h⟩:=bind_some h
 obtain⟨⟨v7,v8⟩,e9,h⟩:=bind_some h
 refine .dc cg (.fa rfl bu<|.bg (D.bool a1) rfl rfl bH rfl<|.fa rfl bu<|.bg (D.bool a3) rfl rfl bH rfl<|.bc il rfl rfl rfl<|.fa rfl aB<|.bg (ag (ak.int .i64) a2) rfl rfl b6 rfl<|.fa rfl aB<|.bg (ag (ak.int .i64) a4) rfl rfl b6 rfl<|.ah (s9 e6) ⟨rfl,rfl,trivial⟩ trivial trivial<|.ah (gZ e9) ⟨rfl,rfl,trivial⟩ trivial trivial<|.cH ([D.bool v7,ag (ak.int .i64) v8]) rfl rfl rfl ax rfl rfl rfl<|.nil) rfl (by kernel_rfl) ?_
 cases h
 refine .aH (fun _ _ hb=>hb) rfl (.cons (.agg rfl rfl ax rfl) .nil) (.refl _) trivial trivial
def oC(a1:Bool)(a2:List Int)(a3:Bool)(a4:List Int):Option Int:=(if(!(a1==a3))=true then(if a1=true then some (-1)else some 1)else(if a1=true then(jL a4 a2).bind fun v8=>some v8 else(jL a2 a4).bind fun v10=>some v10))
theorem Af{a1:Bool}{a2:List Int}{a3:Bool}{a4:List Int}{r12:Int}(h:oC a1 a2 a3 a4=some r12):aS PP 172 [] [D.agg ([D.bool a1,ag (ak.int .i64) a2]),D.agg ([D.bool a3,ag (ak.int .i64) a4])] [] (D.int .i64 r12):=by
 unfold oC at h
 refine .of Go.Proofs.Tryz.func172 rfl (by kernel_rfl) rfl rfl rfl rfl rfl rfl (fun A w0 L b=>?_)
 show Ok PP _ [(0,D.agg ([D.bool a1,ag (ak.int .i64) a2])),(1,D.agg ([D.bool a3,ag (ak.int .i64) a4]))] [] _ _
 refine .al (.ie rfl rfl<|.ie rfl rfl<|.aq rfl<|.nil) rfl ?_
 refine .sq ?_
 refine .al (.fa rfl bu<|.bg (D.bool a1) rfl rfl bH rfl<|.fa rfl bu<|.bg (D.bool a3) rfl rfl bH rfl<|.bc il rfl rfl rfl<|.nil) rfl ?_
 by_cases c5:(!(a1==a3))=true
 ·replace h:=aa c5 h
  refine .cj rfl c5 ?_
  refine .sq ?_
  refine .al (.fa rfl bu<|.bg (D.bool a1) rfl rfl bH rfl<|.nil) rfl ?_
  by_cases c6:a1=true
  ·replace h:=aa c6 h
   refine .cj rfl c6 ?_
   refine .al (.aq rfl<|.nil) rfl ?_
   cases h
   refine .aH (fun _ _ hb=>hb) rfl (.cons (.tmp rfl) .nil) (.refl _) trivial trivial
  ·replace h:=ab c6 h
   refine .ck rfl c6 ?_
   refine .skip (Ok.on ?_)
   refine .al (.aq rfl<|.nil) rfl ?_
   cases h
   refine .aH (fun _ _ hb=>hb) rfl (.cons (.tmp rfl) .nil) (.refl _) trivial trivial
 ·replace h:=ab c5 h
  refine .ck rfl c5 ?_
  refine .skip (Ok.on ?_)
  refine .sq ?_
  refine .al (.fa rfl bu<|.bg (D.bool a1) rfl rfl bH rfl<|.nil) rfl ?_
  by_cases c7:a1=true
  ·replace h:=aa c7 h
   refine .cj rfl c7 ?_
   obtain⟨v8,e9,h⟩:=bind_some h
   refine .al (.fa rfl aB<|.bg (ag (ak.int .i64) a4) rfl rfl b6 rfl<|.fa rfl aB<|.bg (ag (ak.int .i64) a2) rfl rfl b6 rfl<|.ah (qH e9) ⟨rfl,rfl,trivial⟩ trivial trivial<|.aq rfl<|.nil) rfl ?_
   cases h
   refine .aH (fun _ _ hb=>hb) rfl (.cons (.tmp rfl) .nil) (.refl _) trivial trivial
  ·replace h:=ab c7 h
   refine .ck rfl c7 ?_
   refine .skip (Ok.on ?_)
   obtain⟨v10,e11,h⟩:=bind_some h
   refine .al (.fa rfl aB<|.bg (ag (ak.int .i64) a2) rfl rfl b6 rfl<|.fa rfl aB<|.bg (ag (ak.int .i64) a4) rfl rfl b6 rfl<|.ah (qH e11) ⟨rfl,rfl,trivial⟩ trivial trivial<|.aq rfl<|.nil) rfl ?_
   cases h
   refine .aH (fun _ _ hb=>hb) rfl (.cons (.tmp rfl) .nil) (.refl _) trivial trivial
def jM(a2:List Int)(v6:Int)(v7:Int):Option (St (Int×Int) Int):=(if(decide (v7>=0))=true then(ix a2 v7).bind fun v13=>some (St.next ((IntKind.i64.wrap ((IntKind.i64.wrap (v6*10000))+v13)),(IntKind.i64.wrap (v7-1))))else some (St.done v6))
def jT(a1:Bool)(a2:List Int):Option (Int×Bool):=(if(decide ((a2.length:Int)>4))=true then some (0,false)else((Loop (fun(s:Int×Int)=>jM a2 s.1 s.2) (0,(IntKind.i64.wrap ((a2.length:Int)-1)))).bind fun v15=>some (v15)).bind fun v16=>some (v16,true))
theorem sQ{a1:Bool}{a2:List Int}{r17:Int}{r18:Bool}(h:jT a1 a2=some (r17,r18)):aS PP 249 [] [D.agg ([D.bool a1,ag (ak.int .i64) a2])] [] (D.iC [D.int .i64 r17,D.bool r18]):=by
 unfold jT at h
 refine .of Go.Proofs.Tryz.func249 rfl (by kernel_rfl) rfl rfl rfl rfl rfl rfl (fun A w0 L b=>?_)
 show Ok PP _ [(0,D.agg ([D.bool a1,ag (ak.int .i64) a2]))] [] _ _
 refine .al (.ie rfl rfl<|.aq rfl<|.aq rfl<|.nil) rfl ?_
 refine .sq ?_
 refine .al (.fa rfl aB<|.bg (ag (ak.int .i64) a2) rfl rfl b6 rfl<|.ep rfl ba<|.cm rfl rfl rfl<|.nil) rfl ?_
 by_cases c3:(decide ((a2.length:Int)>4))=true
 ·replace h:=aa c3 h
  refine .cj rfl c3 ?_
  refine .al (.aq rfl<|.aq rfl<|.nil) rfl ?_
  cases h
  refine .aH (fun _ _ hb=>hb) rfl (.cons (.tmp rfl) (.cons (.tmp rfl) .nil)) (.refl _) trivial trivial
 ·replace h:=ab c3 h
  refine .ck rfl c3 ?_
  refine .skip (Ok.on ?_)
  refine .al (.aq rfl<|.nil) rfl ?_
  obtain⟨v16,hp5,h⟩:=bind_some h
  refine .cd (fun i=>v16=i) (fun(i:Int)=>[(4,D.int .i64 i)]) (fun(i:Int)=>[]) ?_ ?_
  ·have ho1:=h
   clear h
   have h:=hp5
   clear hp5
   refine .al (.fa rfl aB<|.bg (ag (ak.int .i64) a2) rfl rfl b6 rfl<|.ep rfl ba<|.ar rfl rfl rfl<|.aq rfl<|.nil) rfl ?_
   obtain⟨o8,hl9,h⟩:=bind_some h
   have ho2:=h
   clear h
   refine .block (.b8 (fun(s:Int×Int)=>[(1,D.ref 1 0),(4,D.int .i64 s.1),(5,D.int .i64 s.2)]) (fun(s:Int×Int)=>[(1,Hp.box 35 ([D.bool a1,ag (ak.int .i64) a2]))]) hl9 (.of rfl) (.of rfl) rfl rfl ?_)
   rintro⟨v6,v7⟩ st10 hb11
   have h:jM a2 v6 v7=some st10:=hb11
   clear hb11
   unfold jM at h
   try dsimp only
   refine .sq ?_
   refine .al (.mv rfl<|.cm rfl rfl rfl<|.nil) rfl ?_
   by_cases c12:(decide (v7>=0))=true
   ·replace h:=aa c12 h
    refine .cj rfl c12 ?_
    refine .skip (Ok.on ?_)
    refine .sq ?_
    refine .block ?_
    obtain⟨v13,e14,h⟩:=bind_some h
    refine .region (.mv rfl<|.ar rfl rfl rfl<|.fa rfl aB<|.bg (ag (ak.int .i64) a2) rfl rfl b6 rfl<|.mv rfl<|.ko rfl rfl cy (af e14).1 (af e14).2<|.gC rfl cB<|.ar rfl rfl rfl<|.aq rfl<|.nil) rfl (Ok.on ?_)
    refine .region (.mv rfl<|.ar rfl rfl rfl<|.aq rfl<|.nil) rfl (fun _ _ hs=>⟨((IntKind.i64.wrap ((IntKind.i64.wrap (v6*10000))+v13)),(IntKind.i64.wrap (v7-1))),(Option.some.inj h).symm,hs.sub (.of rfl) (.of rfl) rfl rfl⟩)
   ·replace h:=ab c12 h
    refine .ck rfl c12 ?_
    refine .exit (fun a w hs=>⟨_,(Option.some.inj h).symm,fun e=>by subst e;have h:=ho2;exact aZ (⟨v6,(Option.some.inj h).symm,hs.sub (.of rfl) trivial rfl rfl⟩)⟩)
  ·rintro _ rfl
   try dsimp only
   refine .al (.mv rfl<|.aq rfl<|.aq rfl<|.nil) rfl ?_
   cases h
   refine .aH (fun _ _ hb=>hb) rfl (.cons (.tmp rfl) (.cons (.tmp rfl) .nil)) (.refl _) trivial trivial
def jz(v22:Int)(v23:Int):Option (St (Int×Int) Int):=(if(v23 !=0)=true then bZ ((v23:Int)≠0) (some (St.next (v23,(Int.tmod v22 v23))))else some (St.done v22))
def jv(v5:List Int)(v6:List Int):Option (St ((List Int)×(List Int)) (Ex (List Int) (Bool×(List Int)))):=(if(decide ((v6.length:Int)>0))=true then(jT false v5).bind fun(v12,v13)=>(jT false v6).bind fun(v15,v16)=>((if v13=true then(if v16=true then(Loop (fun(s:Int×Int)=>jz s.1 s.2) (v12,v15)).bind fun v30=>(eY v30).bind fun(v31,v32)=>some (Ex.ret (v31,v32))else some (Ex.da ()))else some (Ex.da ()))).bind fun o18=>(match o18 with|Ex.da ()=>(kg v5 v6).bind fun(v34,v35)=>some (St.next (v6,v35))|Ex.ret (r37,r38)=>some (St.done (Ex.ret (r37,r38))))else some (St.done (Ex.da v5)))
def my(a1:Bool)(a2:List Int)(a3:Bool)(a4:List Int):Option (Bool×(List Int)):=(Loop (fun(s:(List Int)×(List Int))=>jv s.1 s.2) (a2,a4)).bind fun o7=>(match o7 with|Ex.da v39=>some (false,v39)|Ex.ret (r40,r41)=>some (r40,r41))
theorem AZ{a1:Bool}{a2:List Int}{a3:Bool}{a4:List Int}{r42:Bool}{r43:List Int}(h:my a1 a2 a3 a4=some (r42,r43)):aS PP 220 [] [D.agg ([D.bool a1,ag (ak.int .i64) a2]),D.agg ([D.bool a3,ag (ak.int .i64) a4])] [] (D.agg ([D.bool r42,ag (ak.int .i64) r43])):=by
 unfold my at h
 refine .of Go.Proofs.Tryz.func220 rfl (by kernel_rfl) rfl rfl rfl rfl rfl rfl (fun A w0 L b=>?_)
 show Ok PP _ [(0,D.agg ([D.bool a1,ag (ak.int .i64) a2])),(1,D.agg ([D.bool a3,ag (ak.int .i64) a4]))] [] _ _
 refine .al (.ie rfl rfl<|.ie rfl rfl<|.gd ([D.bool false,D.nil]) bQ ⟨.refl _,.refl _,trivial⟩ rfl<|.nil) rfl ?_
 refine .dc cg (.fa rfl aB<|.bg (ag (ak.int .i64) a2) rfl rfl b6 rfl<|.fa rfl aB<|.bg (ag (ak.int .i64) a4) rfl rfl b6 rfl<|.aq rfl<|.aq rfl<|.nil) rfl (by kernel_rfl) ?_
 obtain⟨o7,hl8,h⟩:=bind_some h
 refine .cd (fun i=>o7=Ex.da i) (fun(i:(List Int))=>[(4,D.ref 4 0),(5,ag (ak.int .i64) i)]) (fun(i:(List Int))=>[(4,Hp.box 35 ([D.bool false,D.nil]))]) ?_ ?_
 ·have ho1:=h
  clear h
  refine .block (.b8 (fun(s:(List Int)×(List Int))=>[(4,D.ref 4 0),(5,ag (ak.int .i64) s.1),(6,ag (ak.int .i64) s.2)]) (fun(s:(List Int)×(List Int))=>[(4,Hp.box 35 ([D.bool false,D.nil]))]) hl8 (.of rfl) (.of rfl) rfl rfl ?_)
  rintro⟨v5,v6⟩ st9 hb10
  have h:jv v5 v6=some st9:=hb10
  clear hb10
  unfold jv at h
  try dsimp only
  refine .sq ?_
  refine .al (.mv rfl<|.ep rfl ba<|.cm rfl rfl rfl<|.nil) rfl ?_
  by_cases c11:(decide ((v6.length:Int)>0))=true
  ·replace h:=aa c11 h
   refine .cj rfl c11 ?_
   refine .skip (Ok.on ?_)
   refine .block ?_
   obtain⟨⟨v12,v13⟩,e14,h⟩:=bind_some h
   refine .al (.mv rfl<|.nW ([D.bool false,ag (ak.int .i64) v5]) [(1,_,ag (ak.int .i64) v5,[ag (ak.int .i64) v5])] bQ eG ⟨rfl,rfl,.one rfl,rfl,trivial⟩ ⟨rfl,trivial⟩ ⟨.refl _,.refl _,trivial⟩<|.ah (sQ e14) ⟨rfl,trivial⟩ trivial trivial<|.mv rfl<|.ext rfl rfl<|.ext rfl rfl<|.aq rfl<|.aq rfl<|.nil) rfl ?_
   obtain⟨⟨v15,v16⟩,e17,h⟩:=bind_some h
   refine .al (.mv rfl<|.nW ([D.bool false,ag (ak.int .i64) v6]) [(1,_,ag (ak.int .i64) v6,[ag (ak.int .i64) v6])] bQ eG ⟨rfl,rfl,.one rfl,rfl,trivial⟩ ⟨rfl,trivial⟩ ⟨.refl _,.refl _,trivial⟩<|.ah (sQ e17) ⟨rfl,trivial⟩ trivial trivial<|.mv rfl<|.ext rfl rfl<|.ext rfl rfl<|.aq rfl<|.aq rfl<|.nil) rfl ?_
   obtain⟨o18,hp19,h⟩:=bind_some h
   refine .cd (fun i=>o18=Ex.da i) (fun(i:Unit)=>[(4,D.ref 4 0),(5,ag (ak.int .i64) v5),(6,ag (ak.int .i64) v6)]) (fun(i:Unit)=>[(4,Hp.box 35 ([D.bool false,D.nil]))]) ?_ ?_
   ·have ho2:=h
    clear h
    have h:=hp19
    clear hp19
    by_cases c20:v13=true
    ·replace h:=aa c20 h
     refine .al (.mv rfl<|.mv rfl<|.aV rfl rfl rfl c20<|.mv rfl<|.bn rfl c20 rfl<|.nil) rfl ?_
     by_cases c21:v16=true
     ·replace h:=aa c21 h
      refine .cj rfl c21 ?_
      obtain⟨v30,hl25,h⟩:=bind_some h
      refine .cd (fun i=>v30=i) (fun(i:Int)=>[(4,D.ref 4 0),(7,D.int .i64 i)]) (fun(i:Int)=>[(4,Hp.box 35 ([D.bool false,D.nil]))]) ?_ ?_
      ·have ho3:=h
       clear h
       refine .block (.b8 (fun(s:Int×Int)=>[(4,D.ref 4 0),(7,D.int .i64 s.1),(9,D.int .i64 s.2)]) (fun(s:Int×Int)=>[(4,Hp.box 35 ([D.bool false,D.nil]))]) hl25 (.of rfl) (.of rfl) rfl rfl ?_)
       rintro⟨v22,v23⟩ st26 hb27
       have h:jz v22 v23=some st26:=hb27
       clear hb27
       unfold jz at h
       try dsimp only
       refine .sq ?_
       refine .al (.mv rfl<|.cm rfl rfl rfl<|.nil) rfl ?_
       by_cases c28:(v23 !=0)=true
       ·replace h:=aa c28 h
        refine .cj rfl c28 ?_
        refine .skip (Ok.on ?_)
        refine .block ?_
        obtain⟨k29,h⟩:=aw h
        refine .c_ cg (.mv rfl<|.mv rfl<|.mv rfl<|.ar rfl rfl (uc k29)<|.aq rfl<|.aq rfl<|.nil) rfl (by kernel_rfl) (fun _ _ hs=>⟨(v23,(Int.tmod v22 v23)),(Option.some.inj h).symm,hs.sub (.of rfl) (.of rfl) rfl rfl⟩)
       ·replace h:=ab c28 h
        refine .ck rfl c28 ?_
        refine .exit (fun _ _ hs=>⟨_,(Option.some.inj h).symm,fun e=>⟨v22,e.symm,hs.sub (.of rfl) (.of rfl) rfl rfl⟩⟩)
      ·rintro _ rfl
       try dsimp only
       obtain⟨⟨v31,v32⟩,e33,h⟩:=bind_some h
       refine .al (.mv rfl<|.ah (j6 e33) ⟨rfl,trivial⟩ trivial trivial<|.cH ([D.bool v31,ag (ak.int .i64) v32]) rfl rfl rfl ax rfl rfl rfl<|.nil) rfl ?_
       cases h
       have h:=ho2
       clear ho2
       refine .aH (Hi:=[]) (Ho:=[]) (b:=b) (fn:=Go.Proofs.Tryz.f220) (d:=D.agg ([D.bool v31,ag (ak.int .i64) v32])) (fun _ _ hb=>by exact⟨_,(Option.some.inj h).symm,fun e=>by subst e;have h:=ho1;cases h;exact hb⟩) rfl (.cons (.agg rfl rfl ax rfl) .nil) (.refl _) trivial trivial
     ·replace h:=ab c21 h
      refine .ck rfl c21 ?_
      refine .skip (fun _ _ hs=>⟨(),(Option.some.inj h).symm,hs.sub (.of rfl) (.of rfl) rfl rfl⟩)
    ·replace h:=ab c20 h
     refine .al (.mv rfl<|.mv rfl<|.aT rfl rfl rfl c20<|.bm rfl c20 rfl<|.nil) rfl ?_
     refine .ck rfl (by decide) ?_
     refine .skip (fun _ _ hs=>⟨(),(Option.some.inj h).symm,hs.sub (.of rfl) (.of rfl) rfl rfl⟩)
   ·rintro⟨⟩ rfl
    try dsimp only
    obtain⟨⟨v34,v35⟩,e36,h⟩:=bind_some h
    refine .al (.mv rfl<|.mv rfl<|.ah (rz e36) ⟨rfl,rfl,trivial⟩ trivial trivial<|.mv rfl<|.ext rfl rfl<|.ext rfl rfl<|.aq rfl<|.aq rfl<|.nil) rfl ?_
    refine .region (.mv rfl<|.mv rfl<|.aq rfl<|.aq rfl<|.nil) rfl (fun _ _ hs=>⟨(v6,v35),(Option.some.inj h).symm,hs.sub (.of rfl) (.of rfl) rfl rfl⟩)
  ·replace h:=ab c11 h
   refine .ck rfl c11 ?_
   refine .exit (fun _ _ hs=>⟨_,(Option.some.inj h).symm,fun e=>⟨v5,e.symm,hs.sub (.of rfl) (.of rfl) rfl rfl⟩⟩)
 ·rintro v39 rfl
  try dsimp only
  refine .al (.mv rfl<|.nW ([D.bool false,ag (ak.int .i64) v39]) [(1,_,ag (ak.int .i64) v39,[ag (ak.int .i64) v39])] bQ eG ⟨rfl,rfl,.one rfl,rfl,trivial⟩ ⟨rfl,trivial⟩ ⟨.refl _,.refl _,trivial⟩<|.cH ([D.bool false,ag (ak.int .i64) v39]) rfl rfl rfl ax rfl rfl rfl<|.nil) rfl ?_
  cases h
  refine .aH (fun _ _ hb=>hb) rfl (.cons (.agg rfl rfl ax rfl) .nil) (.refl _) trivial trivial
def dN(v17:List UInt8)(v18:Int)(v19:Int):Option (St ((List UInt8)×Int×Int) (List UInt8)):=(if(decide (v19<4))=true then bZ ((0:Int)<=(Int.tmod v18 10)/\((Int.tmod v18 10):Int)<=(IntKind.i64.wrap ((Int.tmod v18 10)+1))/\((IntKind.i64.wrap ((Int.tmod v18 10)+1)):Int)<=(([48,49,50,51,52,53,54,55,56,57]:List UInt8).length:Int)) (bZ ((List.drop (Int.tmod v18 10).toNat (List.take (IntKind.i64.wrap ((Int.tmod v18 10)+1)).toNat ([48,49,50,51,52,53,54,55,56,57]:List UInt8))).length+v17.length<=9223372036854775807) (some (St.next (((List.drop (Int.tmod v18 10).toNat (List.take (IntKind.i64.wrap ((Int.tmod v18 10)+1)).toNat ([48,49,50,51,52,53,54,55,56,57]:List UInt8)))++v17),(IntKind.i64.wrap (Int.tdiv v18 10)),(IntKind.i64.wrap (v19+1))))))else some (St.done v17))
def gf(a2:List Int)(v6:List UInt8)(v7:Int):Option (St ((List UInt8)×Int) (List UInt8)):=(if(decide (v7<(a2.length:Int)))=true then((ix a2 v7).bind fun v15=>(Loop (fun(s:(List UInt8)×Int×Int)=>dN s.1 s.2.1 s.2.2) (v6,v15,0)).bind fun v27=>some (v27)).bind fun v28=>some (St.next (v28,(IntKind.i64.wrap (v7+1))))else some (St.done v6))
def gh(v31:List UInt8):Option (St (List UInt8) (List UInt8)):=(ix v31 0).bind fun v36=>(if((v36.toNat:Int)==48)=true then bZ ((0:Int)<=1/\(1:Int)<=(v31.length:Int)) (some (St.next (List.drop (1:Int).toNat v31)))else some (St.done v31))
def jX(a1:Bool)(a2:List Int):Option (List UInt8):=(if((a2.length:Int)==0)=true then some ([48]:List UInt8)else((Loop (fun(s:(List UInt8)×Int)=>gf a2 s.1 s.2) (([]:List UInt8),0)).bind fun v29=>some (v29)).bind fun v30=>(Loop (fun(s:(List UInt8))=>gh s) v30).bind fun v40=>(if a1=true then bZ (([45]:List UInt8).length+v40.length<=9223372036854775807) (some (([45]:List UInt8)++v40))else some v40))
theorem tw{a1:Bool}{a2:List Int}{r43:List UInt8}(h:jX a1 a2=some r43):aS PP 222 [] [D.agg ([D.bool a1,ag (ak.int .i64) a2])] [] (bU r43):=by
 unfold jX at h
 refine .of Go.Proofs.Tryz.func222 rfl (by kernel_rfl) rfl rfl rfl rfl rfl rfl (fun A w0 L b=>?_)
 show Ok PP _ [(0,D.agg ([D.bool a1,ag (ak.int .i64) a2]))] [] _ _
 refine .al (.ie rfl rfl<|.aq rfl<|.nil) rfl ?_
 refine .sq ?_
 refine .al (.fa rfl aB<|.bg (ag (ak.int .i64) a2) rfl rfl b6 rfl<|.ep rfl ba<|.cm rfl rfl rfl<|.nil) rfl ?_
 by_cases c3:((a2.length:Int)==0)=true
 ·replace h:=aa c3 h
  refine .cj rfl c3 ?_
  refine .al (.aq rfl<|.nil) rfl ?_
  cases h
  refine .aH (fun _ _ hb=>hb) rfl (.cons (.tmp rfl) .nil) (.refl _) trivial trivial
 ·replace h:=ab c3 h
  refine .ck rfl c3 ?_
  refine .skip (Ok.on ?_)
  refine .al (.aq rfl<|.nil) rfl ?_
  obtain⟨v30,hp5,h⟩:=bind_some h
  refine .cd (fun i=>v30=i) (fun(i:(List UInt8))=>[(1,D.ref 1 0),(3,bU i)]) (fun(i:(List UInt8))=>[(1,Hp.box 35 ([D.bool a1,ag (ak.int .i64) a2]))]) ?_ ?_
  ·have ho1:=h
   clear h
   have h:=hp5
   clear hp5
   refine .al (.aq rfl<|.nil) rfl ?_
   obtain⟨o8,hl9,h⟩:=bind_some h
   have ho2:=h
   clear h
   refine .block (.b8 (fun(s:(List UInt8)×Int)=>[(1,D.ref 1 0),(3,bU s.1),(4,D.int .i64 s.2)]) (fun(s:(List UInt8)×Int)=>[(1,Hp.box 35 ([D.bool a1,ag (ak.int .i64) a2]))]) hl9 (.of rfl) (.of rfl) rfl rfl ?_)
   rintro⟨v6,v7⟩ st10 hb11
   have h:gf a2 v6 v7=some st10:=hb11
   clear hb11
   unfold gf at h
   try dsimp only
   refine .sq ?_
   refine .al (.mv rfl<|.fa rfl aB<|.bg (ag (ak.int .i64) a2) rfl rfl b6 rfl<|.ep rfl ba<|.cm rfl rfl rfl<|.nil) rfl ?_
   by_cases c12:(decide (v7<(a2.length:Int)))=true
   ·replace h:=aa c12 h
    refine .cj rfl c12 ?_
    refine .skip (Ok.on ?_)
    obtain⟨v28,hp14,h⟩:=bind_some h
    refine .cd (fun i=>v28=i) (fun(i:(List UInt8))=>[(1,D.ref 1 0),(3,bU i),(4,D.int .i64 v7)]) (fun(i:(List UInt8))=>[(1,Hp.box 35 ([D.bool a1,ag (ak.int .i64) a2]))]) ?_ ?_
    ·have ho3:=h
     clear h
     have h:=hp14
     clear hp14
     refine .block ?_
     obtain⟨v15,e16,h⟩:=bind_some h
     refine .al (.fa rfl aB<|.bg (ag (ak.int .i64) a2) rfl rfl b6 rfl<|.mv rfl<|.ko rfl rfl cy (af e16).1 (af e16).2<|.gC rfl cB<|.aq rfl<|.nil) rfl ?_
     refine .al (.aq rfl<|.nil) rfl ?_
     obtain⟨o20,hl21,h⟩:=bind_some h
     have ho4:=h
     clear h
     refine .block (.b8 (fun(s:(List UInt8)×Int×Int)=>[(1,D.ref 1 0),(3,bU s.1),(4,D.int .i64 v7),(5,D.int .i64 s.2.1),(6,D.int .i64 s.2.2)]) (fun(s:(List UInt8)×Int×Int)=>[(1,Hp.box 35 ([D.bool a1,ag (ak.int .i64) a2]))]) hl21 (.of rfl) (.of rfl) rfl rfl ?_)
     rintro⟨v17,v18,v19⟩ st22 hb23
     have h:dN v17 v18 v19=some st22:=hb23
     clear hb23
     unfold dN at h
     try dsimp only
     refine .sq ?_
     refine .al (.mv rfl<|.cm rfl rfl rfl<|.nil) rfl ?_
     by_cases c24:(decide (v19<4))=true
     ·replace h:=aa c24 h
      refine .cj rfl c24 ?_
      refine .skip (Ok.on ?_)
      refine .sq ?_
      refine .block ?_
      obtain⟨k25,h⟩:=aw h
      obtain⟨k26,h⟩:=aw h
      refine .al (.mv rfl<|.ar rfl rfl (uc (by decide))<|.mv rfl<|.ar rfl rfl (uc (by decide))<|.ar rfl rfl rfl<|.G4 rfl rfl rfl ct k25.1 k25.2.1 k25.2.2<|.mv rfl<|.vF rfl rfl k26<|.aq rfl<|.nil) rfl ?_
      refine .region (.mv rfl<|.ar rfl rfl (vR (by decide))<|.aq rfl<|.nil) rfl (Ok.on ?_)
      refine .region (.mv rfl<|.ar rfl rfl rfl<|.aq rfl<|.nil) rfl (fun _ _ hs=>⟨(((List.drop (Int.tmod v18 10).toNat (List.take (IntKind.i64.wrap ((Int.tmod v18 10)+1)).toNat ([48,49,50,51,52,53,54,55,56,57]:List UInt8)))++v17),(IntKind.i64.wrap (Int.tdiv v18 10)),(IntKind.i64.wrap (v19+1))),(Option.some.inj h).symm,hs.sub (.of rfl) (.of rfl) rfl rfl⟩)
     ·replace h:=ab c24 h
      refine .ck rfl c24 ?_
      refine .exit (fun a w hs=>⟨_,(Option.some.inj h).symm,fun e=>by subst e;have h:=ho4;exact aZ (⟨v17,(Option.some.inj h).symm,hs.sub (.of rfl) (.of rfl) rfl rfl⟩)⟩)
    ·rintro _ rfl
     try dsimp only
     refine .region (.mv rfl<|.ar rfl rfl rfl<|.aq rfl<|.nil) rfl (fun _ _ hs=>⟨(v28,(IntKind.i64.wrap (v7+1))),(Option.some.inj h).symm,hs.sub (.of rfl) (.of rfl) rfl rfl⟩)
   ·replace h:=ab c12 h
    refine .ck rfl c12 ?_
    refine .exit (fun a w hs=>⟨_,(Option.some.inj h).symm,fun e=>by subst e;have h:=ho2;exact aZ (⟨v6,(Option.some.inj h).symm,hs.sub (.of rfl) (.of rfl) rfl rfl⟩)⟩)
  ·rintro _ rfl
   try dsimp only
   obtain⟨v40,hl33,h⟩:=bind_some h
   refine .cd (fun i=>v40=i) (fun(i:(List UInt8))=>[(1,D.ref 1 0),(3,bU i)]) (fun(i:(List UInt8))=>[(1,Hp.box 35 ([D.bool a1,ag (ak.int .i64) a2]))]) ?_ ?_
   ·have ho1:=h
    clear h
    refine .block (.b8 (fun(s:(List UInt8))=>[(1,D.ref 1 0),(3,bU s)]) (fun(s:(List UInt8))=>[(1,Hp.box 35 ([D.bool a1,ag (ak.int .i64) a2]))]) hl33 (.of rfl) (.of rfl) rfl rfl ?_)
    rintro v31 st34 hb35
    have h:gh v31=some st34:=hb35
    clear hb35
    unfold gh at h
    try dsimp only
    refine .sq ?_
    obtain⟨v36,e37,h⟩:=bind_some h
    refine .al (.mv rfl<|.GN rfl rfl ct (af e37).1 (af e37).2<|.cm rfl rfl rfl<|.nil) rfl ?_
    by_cases c38:((v36.toNat:Int)==48)=true
    ·replace h:=aa c38 h
     refine .cj rfl c38 ?_
     refine .skip (Ok.on ?_)
     refine .block ?_
     obtain⟨k39,h⟩:=aw h
     refine .region (.mv rfl<|.F_ rfl rfl ct k39.1 k39.2<|.aq rfl<|.nil) rfl (fun _ _ hs=>⟨(List.drop (1:Int).toNat v31),(Option.some.inj h).symm,hs.sub (.of rfl) (.of rfl) rfl rfl⟩)
    ·replace h:=ab c38 h
     refine .ck rfl c38 ?_
     refine .exit (fun _ _ hs=>⟨_,(Option.some.inj h).symm,fun e=>⟨v31,e.symm,hs.sub (.of rfl) (.of rfl) rfl rfl⟩⟩)
   ·rintro _ rfl
    try dsimp only
    refine .sq ?_
    refine .al (.fa rfl bu<|.bg (D.bool a1) rfl rfl bH rfl<|.nil) rfl ?_
    by_cases c41:a1=true
    ·replace h:=aa c41 h
     refine .cj rfl c41 ?_
     obtain⟨k42,h⟩:=aw h
     refine .al (.mv rfl<|.vF rfl rfl k42<|.aq rfl<|.nil) rfl ?_
     cases h
     refine .aH (fun _ _ hb=>hb) rfl (.cons (.tmp rfl) .nil) (.refl _) trivial trivial
    ·replace h:=ab c41 h
     refine .ck rfl c41 ?_
     refine .skip (Ok.on ?_)
     refine .al (.mv rfl<|.aq rfl<|.nil) rfl ?_
     cases h
     refine .aH (fun _ _ hb=>hb) rfl (.cons (.tmp rfl) .nil) (.refl _) trivial trivial
end
end Go.Am
namespace Go.Am
open Go.RowKit
theorem dB(x i:Nat):x/10000^(i+1)=x/10000^i/10000:=by rw[Nat.pow_succ,Nat.div_div_eq_div_mul]
theorem kN(i:Nat):0<10000^i:=Nat.pow_pos (by decide)
theorem iw:∀(i x:Nat),i<(az x).length↔x/10000^i≠0
 |i,x=>by
  by_cases h:x=0
  ·subst h;rw[cM,Nat.zero_div];simp
  ·rw[iK h,List.length_cons]
   cases i with
   |zero=>simp[h]
   |succ i=>
    have:=iw i (x/10000)
    rw[Nat.div_div_eq_div_mul,Nat.mul_comm,←Nat.pow_succ]at this
    rw[←this];omega
theorem vA:∀(i x:Nat),i<(az x).length->(az x)[i]?=some ((x/10000^i%10000:Nat):Int)
 |i,x,h=>by
  have h0:x≠0:=by intro e;subst e;rw[cM]at h;simp at h
  rw[iK h0]at h|-
  cases i with
  |zero=>simp
  |succ i=>
   rw[List.getElem?_cons_succ,vA i (x/10000) (by simpa using h),Nat.div_div_eq_div_mul,Nat.mul_comm,←Nat.pow_succ]
theorem jf{i x:Nat}(h:i<(az x).length):ix (az x) (i:Int)=some ((x/10000^i%10000:Nat):Int):=by
 unfold ix
 rw[if_pos (by omega),Int.toNat_natCast,vA i x h]
theorem lj(x:Nat):x/10000^(az x).length=0:=by
 have:=(iw (az x).length x)
 simp only[Nat.lt_irrefl,false_iff,ne_eq,Classical.not_not]at this
 exact this
theorem jS(x:Nat):x<10000^(az x).length:=by
 have:=lj x
 rw[Nat.div_eq_zero_iff]at this
 rcases this with h|h
 ·exact absurd h (Nat.ne_of_gt (kN _))
 ·exact h
theorem pT{x n:Nat}(h:x<10000^n):(az x).length<=n:=by
 apply Nat.le_of_not_lt
 intro hc
 exact(iw n x).1 hc (Nat.div_eq_of_lt h)
theorem xV{x n:Nat}(h:n<(az x).length):10000^n<=x:=by
 have:=(iw n x).1 h
 apply Nat.le_of_not_lt
 intro hc
 exact this (Nat.div_eq_of_lt hc)
theorem pj(x:Nat):(az x).length<=bA x:=by
 apply pT
 refine Nat.lt_of_lt_of_le (lD x) (Nat.pow_le_pow_left (by decide) _)
theorem eZ{x:Nat}(h:sm x):(az x).length<=4398046511104:=Nat.le_trans (pj x) h
theorem py{x:Nat}:(az x).length=0↔x=0:=by
 constructor
 ·intro h
  have:=jS x
  rw[h]at this;simpa using this
 ·rintro rfl;rw[cM];rfl
def v10:List Int->Int
 |[]=>0
 |d::l=>d+10000*v10 l
def iB(l:List Int):Prop:=∀d∈l,0<=d/\d<10000
theorem oa:iB []:=by intro d h;cases h
theorem dm{d:Int}{l:List Int}:iB (d::l)↔(0<=d/\d<10000)/\iB l:=by simp[iB]
theorem pO{l m:List Int}:iB (l++m)↔iB l/\iB m:=by
 simp only[iB,List.mem_append];constructor
 ·exact fun h=>⟨fun d k=>h d (.inl k),fun d k=>h d (.inr k)⟩
 ·rintro⟨h,k⟩ d (hd|hd)
  ·exact h d hd
  ·exact k d hd
theorem xM:∀x,iB (az x)
 |x=>by
  by_cases h:x=0
  ·subst h;rw[cM];exact oa
  ·rw[iK h,dm]
   exact⟨by omega,xM (x/10000)⟩
termination_by x=>x
decreasing_by exact Nat.div_lt_self (by omega) (by omega)
theorem rW:∀x:Nat,v10 (az x)=x
 |x=>by
  by_cases h:x=0
  ·subst h;rw[cM];rfl
  ·rw[iK h,v10,rW (x/10000)];omega
termination_by x=>x
decreasing_by exact Nat.div_lt_self (by omega) (by omega)
theorem ni:∀{l:List Int},iB l->0<=v10 l
 |[],_=>by simp[v10]
 |d::l,h=>by
  have:=ni (dm.1 h).2
  have:=(dm.1 h).1
  rw[v10];omega
theorem nR:∀(l m:List Int),v10 (l++m)=v10 l+((10000^l.length:Nat):Int)*v10 m
 |[],m=>by simp[v10]
 |d::l,m=>by
  rw[List.cons_append,v10,nR l m,v10,List.length_cons,Nat.pow_succ,Nat.mul_comm (10000^l.length),Int.natCast_mul,Int.mul_add,Int.mul_assoc,Int.add_assoc];rfl
theorem Bk:∀{l:List Int},iB l->v10 l<((10000^l.length:Nat):Int)
 |[],_=>by simp[v10]
 |d::l,h=>by
  have h1:=Bk (dm.1 h).2
  have:=(dm.1 h).1
  rw[v10,List.length_cons,Nat.pow_succ]
  generalize 10000^l.length=p at*
  omega
theorem um:∀n,v10 (List.replicate n 0)=0
 |0=>rfl
 |n+1=>by rw[List.replicate_succ,v10,um n];rfl
theorem vQ(n:Nat):iB (List.replicate n 0):=by
 intro d h
 have:=List.eq_of_mem_replicate h
 omega
theorem qU:∀{l:List Int} {k:Nat} {d:Int},iB l->0<=d->d<10000->iB (l.set k d)
 |[],_,_,h,_,_=>h
 |e::l,0,d,h,h1,h2=>dm.2 ⟨⟨h1,h2⟩,(dm.1 h).2⟩
 |e::l,k+1,d,h,h1,h2=>dm.2 ⟨(dm.1 h).1,qU (dm.1 h).2 h1 h2⟩
theorem tI:∀{l:List Int} {k:Nat} {d:Int} (h:k<l.length),v10 (l.set k d)=v10 l+((10000^k:Nat):Int)*(d-l[k])
 |[],k,_,h=>by simp at h
 |e::l,0,d,h=>by simp only[List.set_cons_zero,v10,Nat.pow_zero,List.getElem_cons_zero];omega
 |e::l,k+1,d,h=>by
  have:=tI (l:=l) (k:=k) (d:=d) (by simpa using h)
  simp only[List.set_cons_succ,v10,List.getElem_cons_succ]
  rw[this,Nat.pow_succ,Nat.mul_comm (10000^k),Int.natCast_mul,Int.mul_add,Int.mul_assoc]
  omega
theorem uP:∀{l:List Int},iB l->(∀d,l.getLast?=some d->d≠0)->az (v10 l).toNat=l
 |[],_,_=>by rw[v10];exact cM
 |[d],h,hl=>by
  have h0:=hl d rfl
  have h1:=(dm.1 h).1
  have e:(v10 [d]).toNat=d.toNat:=by simp[v10]
  rw[e,iK (by omega),Nat.div_eq_of_lt (by omega),cM,Nat.mod_eq_of_lt (by omega)]
  congr 1;omega
 |d::e::l,h,hl=>by
  have h1:=(dm.1 h).1
  have h2:=(dm.1 h).2
  have ih:=uP h2 (fun d hd=>hl d (by rw[List.getLast?_cons_cons];exact hd))
  have hp:(v10 (e::l)).toNat≠0:=by
   intro h0
   rw[h0,cM]at ih;cases ih
  have hn:=ni h2
  rw[v10]
  generalize v10 (e::l)=w at*
  have e1:(d+10000*w).toNat=d.toNat+10000*w.toNat:=by omega
  rw[e1,iK (by omega)]
  have e2:(d.toNat+10000*w.toNat)/10000=w.toNat:=by omega
  have e3:(((d.toNat+10000*w.toNat)%10000:Nat):Int)=d:=by omega
  rw[e2,e3,ih]
theorem sF{l:List Int}(h:l≠[])(hz:l[l.length-1]?=some 0):v10 (l.take (l.length-1))=v10 l:=by
 have hl:0<l.length:=List.length_pos_iff.2 h
 have e:l=l.take (l.length-1)++[0]:=by
  have:=List.take_append_drop (l.length-1) l
  conv=>lhs;rw[←this]
  congr 1
  rw[List.drop_eq_getElem_cons (by omega)]
  rw[List.getElem?_eq_getElem (by omega)]at hz
  injection hz with hz
  rw[hz,List.drop_eq_nil_of_le (by omega)]
 conv=>rhs;rw[e]
 rw[nR];simp[v10]
theorem qJ(l:List Int)(h:iB l)(hl:l.length<=9000000000000000):iE l=some (az (v10 l).toNat):=by
 unfold iE
 obtain⟨r,hr,rfl⟩:=bI (body:=fun(s:(List Int))=>jm s) l (fun s=>iB s/\v10 s=v10 l/\s.length<=l.length) (fun s=>s.length) (fun r=>r=az (v10 l).toNat) ⟨h,rfl,Nat.le_refl _⟩ (by
  rintro s ⟨hs,hv,hsl⟩
  unfold jm
  by_cases h0:s.length=0
  ·right
   have:s=[]:=List.length_eq_zero_iff.1 h0
   subst this
   rw[if_neg (by decide)]
   refine⟨[],rfl,?_⟩
   rw[←hv];exact cM.symm
  ·rw[if_pos (decide_eq_true (by omega))]
   have e1:IntKind.i64.wrap ((s.length:Int)-1)=((s.length-1:Nat):Int):=by rw[wrap_small (by omega) (by omega)];omega
   rw[e1,et (by omega),Option.bind_some]
   by_cases hz:s[s.length-1]=0
   ·left
    rw[if_pos (by rw[beq_iff_eq];exact hz)]
    refine⟨_,bY ⟨by omega,by omega⟩ rfl,⟨?_,?_,?_⟩,?_⟩
    ·rw[Int.toNat_natCast];exact fun d hd=>hs d (List.mem_of_mem_take hd)
    ·rw[Int.toNat_natCast,sF (by intro e;rw[e]at h0;exact h0 rfl) (by rw[List.getElem?_eq_getElem (by omega),hz]),hv]
    ·rw[Int.toNat_natCast,List.length_take];omega
    ·rw[Int.toNat_natCast,List.length_take];omega
   ·right
    rw[if_neg (by rw[beq_iff_eq];exact hz)]
    refine⟨s,rfl,?_⟩
    rw[←hv]
    refine(uP hs ?_).symm
    intro d hd
    rw[List.getLast?_eq_getElem?,List.getElem?_eq_getElem (by omega)]at hd
    injection hd with hd
    rw[←hd];exact hz)
 rw[hr];rfl
end Go.Am
namespace Go.Am
open Go.RowKit
theorem DZ{x i:Nat}(h:i<(az x).length){j:Int}(hj:j=(i:Int)):ix (az x) j=some ((x/10000^i%10000:Nat):Int):=by rw[hj,jf h]
theorem i64_in{n:Int}(h:-9223372036854775808<=n/\n<9223372036854775808):IntKind.i64.wrap n=n:=wrap_small h.1 h.2
theorem mQ(n:Int)(h:eE n):eY n=some (decide (n<0),az n.natAbs):=by
 unfold eY
 obtain⟨r,hr,rfl⟩:=bI (body:=fun(s:Int×(List Int))=>jt s.1 s.2) (n,[]) (fun s=>eE s.1/\s.2++az s.1.natAbs=az n.natAbs) (fun s=>s.1.natAbs) (fun r=>r=az n.natAbs) ⟨h,rfl⟩ (by
  rintro⟨x,b⟩ ⟨hx,hb⟩
  simp only at hx hb|-
  unfold jt
  unfold eE at hx
  by_cases h0:x=0
  ·right
   subst h0
   refine⟨b,rfl,?_⟩
   rw[show Int.natAbs 0=0 from rfl,cM,List.append_nil]at hb;exact hb
  ·left
   have hc:(x !=0)=true:=by rw[bne_iff_ne];exact h0
   rw[if_pos hc]
   have e1:Int.tmod x 10000=if x<0 then-((x.natAbs%10000:Nat):Int)else((x.natAbs%10000:Nat):Int):=by
    by_cases hn:x<0
    ·rw[if_pos hn]
     have:x=-(x.natAbs:Int):=by omega
     conv=>lhs;rw[this]
     rw[Int.neg_tmod,Int.tmod_eq_emod_of_nonneg (by omega)];omega
    ·rw[if_neg hn,Int.tmod_eq_emod_of_nonneg (by omega)];omega
   have e2:Int.tdiv x 10000=if x<0 then-((x.natAbs/10000:Nat):Int)else((x.natAbs/10000:Nat):Int):=by
    by_cases hn:x<0
    ·rw[if_pos hn]
     have:x=-(x.natAbs:Int):=by omega
     conv=>lhs;rw[this]
     rw[Int.neg_tdiv,Int.tdiv_eq_ediv_of_nonneg (by omega)];omega
    ·rw[if_neg hn,Int.tdiv_eq_ediv_of_nonneg (by omega)];omega
   have hd:(if(decide ((Int.tmod x 10000)<0))=true then some ((IntKind.i64.wrap (0-(Int.tmod x 10000))))else some ((Int.tmod x 10000)))=some ((x.natAbs%10000:Nat):Int):=by
    rw[e1]
    by_cases hn:x<0
    ·rw[if_pos hn]
     by_cases hz:x.natAbs%10000=0
     ·rw[hz];rfl
     ·rw[if_pos (decide_eq_true (by omega)),i64_in (by omega)];congr 1;omega
    ·rw[if_neg hn,if_neg (by simp;omega)]
   rw[hd,Option.bind_some]
   have e3:IntKind.i64.wrap (Int.tdiv x 10000)=Int.tdiv x 10000:=by rw[e2,i64_in];split<;>omega
   have hx0:x.natAbs≠0:=by omega
   have e4:(Int.tdiv x 10000).natAbs=x.natAbs/10000:=by rw[e2];split<;>omega
   rw[iK hx0]at hb
   have hbl:b.length+1<=9223372036854:=by
    have h1:=congrArg List.length hb
    rw[List.length_append,List.length_cons]at h1
    have h2:=pj n.natAbs
    have h3:bA n.natAbs<=64:=dI (by unfold eE at h;omega)
    omega
   rw[e3]
   refine⟨_,bY ⟨by simp only[List.length_cons,List.length_nil];omega,by simp only[List.length_cons,List.length_nil];omega⟩ rfl,⟨?_,?_⟩,?_⟩
   ·simp only;rw[e2];unfold eE;split<;>omega
   ·simp only;rw[e4,←hb,List.append_assoc];rfl
   ·simp only;rw[e4];exact Nat.div_lt_self (by omega) (by decide))
 rw[hr];rfl
theorem AK{X Y:Nat}(h:X/10000=Y/10000):((X%10000:Nat):Int)<((Y%10000:Nat):Int)↔X<Y:=by omega
theorem wK(x y:Nat)(hx:sm x)(hy:sm y):jL (az x) (az y)=some (fg x y):=by
 have lx:=eZ hx
 have ly:=eZ hy
 unfold jL
 by_cases hl:(((az x).length:Int) !=((az y).length:Int))=true
 ·rw[if_pos hl]
  rw[bne_iff_ne]at hl
  by_cases hlt:(az x).length<(az y).length
  ·rw[if_pos (decide_eq_true (by omega))]
   have h1:=jS x
   have h2:=xV hlt
   unfold fg;rw[if_pos (by omega)]
  ·rw[if_neg (by simp;omega)]
   have h1:=jS y
   have h2:=xV (show(az y).length<(az x).length by omega)
   unfold fg;rw[if_neg (by omega),if_pos (by omega)]
 ·rw[if_neg hl]
  have hle:(az x).length=(az y).length:=by
   rw[bne_iff_ne,ne_eq,Classical.not_not]at hl;omega
  have e1:IntKind.i64.wrap (((az x).length:Int)-1)=((az x).length:Int)-1:=i64_in (by omega)
  rw[e1]
  obtain⟨r,hr,hq⟩:=bI (body:=fun(s:Int)=>j_ (az x) (az y) s) (((az x).length:Int)-1) (fun s=>∃k:Nat,s=(k:Int)-1/\k<=(az x).length/\x/10000^k=y/10000^k) (fun s=>(s+1).toNat) (fun r=>(x=y/\r=Ex.da ())\/(x≠y/\r=Ex.ret (fg x y))) ⟨_,rfl,Nat.le_refl _,by rw[lj,hle,lj]⟩ (by
   rintro s ⟨k,rfl,hk,he⟩
   unfold j_
   cases k with
   |zero=>
    right
    rw[if_neg (by simp)]
    refine⟨_,rfl,.inl ⟨?_,rfl⟩⟩
    simpa using he
   |succ k=>
    have ek:((k+1:Nat):Int)-1=(k:Int):=by omega
    rw[ek,if_pos (decide_eq_true (by omega)),DZ (by omega) rfl,Option.bind_some,DZ (by omega) rfl,Option.bind_some]
    rw[dB,dB]at he
    have hmx:=Nat.div_add_mod x (10000^k)
    have hmy:=Nat.div_add_mod y (10000^k)
    have hlx:=Nat.mod_lt x (kN k)
    have hly:=Nat.mod_lt y (kN k)
    have hmono:∀a b:Nat,a/10000^k<b/10000^k->a<b:=by
     intro a b h
     apply Nat.lt_of_not_le
     intro hc
     exact Nat.lt_irrefl _ (Nat.lt_of_lt_of_le h (Nat.div_le_div_right hc))
    by_cases hd:x/10000^k=y/10000^k
    ·left
     rw[if_neg (by rw[hd];simp)]
     refine⟨_,rfl,⟨k,?_,by omega,hd⟩,?_⟩
     ·exact i64_in (by omega)
     ·rw[i64_in (by omega)];omega
    ·right
     have hne:x≠y:=fun h=>hd (by rw[h])
     have hnd:x/10000^k%10000≠y/10000^k%10000:=by
      intro h;apply hd;omega
     rw[if_pos (by rw[bne_iff_ne];omega),Option.bind_some,Option.bind_some]
     by_cases hlt:x/10000^k<y/10000^k
     ·rw[if_pos (decide_eq_true ((AK he).2 hlt))]
      refine⟨_,rfl,.inr ⟨hne,?_⟩⟩
      have:=hmono _ _ hlt
      unfold fg;rw[if_pos this]
     ·rw[if_neg (fun h=>hlt ((AK he).1 (of_decide_eq_true h)))]
      refine⟨_,rfl,.inr ⟨hne,?_⟩⟩
      have:=hmono y x (Nat.lt_of_le_of_ne (Nat.le_of_not_lt hlt) (Ne.symm hd))
      unfold fg;rw[if_neg (by omega),if_pos this])
  rw[hr]
  rcases hq with⟨h,rfl⟩|⟨h,rfl⟩
  ·subst h
   simp only[Option.bind_some,fg];simp
  ·rfl
theorem yH(dx dy tgt out:List Int)(c i X Y:Nat)(hc1:c<=1)(gx:i<dx.length↔X≠0)(gy:i<dy.length↔Y≠0)(ex:i<dx.length->ix dx (i:Int)=some ((X%10000:Nat):Int))(ey:i<dy.length->ix dy (i:Int)=some ((Y%10000:Nat):Int))
  (lt:tgt.length<=4398046511105)(ho:out++az (c+X+Y)=tgt)(hl:out.length=i):
  (∃c' out',fX dx dy (c:Int) (i:Int) out=some (.next (((c':Nat):Int),((i+1:Nat):Int),out'))/\c'<=1/\i+1<=4398046511105/\out'++az (c'+X/10000+Y/10000)=tgt/\out'.length=i+1)\/
  (fX dx dy (c:Int) (i:Int) out=some (.done out)/\out=tgt):=by
 unfold fX
 by_cases hz:X=0/\Y=0/\c=0
 ·right
  obtain⟨rfl,rfl,rfl⟩:=hz
  have h3:¬i<dx.length:=fun h=>gx.1 h rfl
  have h4:¬i<dy.length:=fun h=>gy.1 h rfl
  rw[if_neg (by simp;omega),if_neg (by simp;omega),if_neg (by decide),Option.bind_some]
  refine⟨rfl,?_⟩
  rw[cM,List.append_nil]at ho;exact ho
 ·left
  have hgo:(if(decide ((i:Int)<(dx.length:Int)))=true then some (Ex.da ())else(if(decide ((i:Int)<(dy.length:Int)))=true then some (Ex.da ())else(if(decide ((c:Int)>0))=true then some (Ex.da ())else some (Ex.ret ()))):Option (Ex Unit Unit))=some (Ex.da ()):=by
   by_cases h1:i<dx.length
   ·rw[if_pos (decide_eq_true (by omega))]
   ·rw[if_neg (by simp;omega)]
    by_cases h2:i<dy.length
    ·rw[if_pos (decide_eq_true (by omega))]
    ·rw[if_neg (by simp;omega),if_pos (decide_eq_true ?_)]
     have h3:X=0:=Classical.byContradiction fun h=>h1 (gx.2 h)
     have h4:Y=0:=Classical.byContradiction fun h=>h2 (gy.2 h)
     have:c≠0:=fun h=>hz ⟨h3,h4,h⟩
     omega
  rw[hgo,Option.bind_some]
  dsimp only
  have hR:c+X+Y≠0:=fun h=>hz ⟨by omega,by omega,by omega⟩
  have e1:(if(decide ((i:Int)<(dx.length:Int)))=true then(ix dx (i:Int)).bind fun v20=>some ((IntKind.i64.wrap ((c:Int)+v20)))else some ((c:Int)))=some (((c+X%10000:Nat)):Int):=by
   by_cases h1:i<dx.length
   ·rw[if_pos (decide_eq_true (by omega)),ex h1,Option.bind_some,i64_in (by omega)];congr 1
   ·have h3:X=0:=Classical.byContradiction fun h=>h1 (gx.2 h)
    rw[if_neg (by simp;omega),h3];rfl
  rw[e1,Option.bind_some]
  have e2:(if(decide ((i:Int)<(dy.length:Int)))=true then(ix dy (i:Int)).bind fun v26=>some ((IntKind.i64.wrap (((c+X%10000:Nat):Int)+v26)))else some (((c+X%10000:Nat):Int)))=some (((c+X%10000+Y%10000:Nat)):Int):=by
   by_cases h1:i<dy.length
   ·rw[if_pos (decide_eq_true (by omega)),ey h1,Option.bind_some,i64_in (by omega)];congr 1
   ·have h3:Y=0:=Classical.byContradiction fun h=>h1 (gy.2 h)
    rw[if_neg (by simp;omega),h3];rfl
  rw[e2,Option.bind_some]
  rw[iK hR]at ho
  have hol:=congrArg List.length ho
  rw[List.length_append,List.length_cons]at hol
  have hi1:i+1<=4398046511105:=by omega
  have e3:Int.tmod ((c+X%10000+Y%10000:Nat):Int) 10000=(((c+X+Y)%10000:Nat):Int):=by
   rw[Int.tmod_eq_emod_of_nonneg (by omega)];omega
  have e4:IntKind.i64.wrap (Int.tdiv ((c+X%10000+Y%10000:Nat):Int) 10000)=(((c+X%10000+Y%10000)/10000:Nat):Int):=by
   rw[Int.tdiv_eq_ediv_of_nonneg (by omega),i64_in (by omega)];omega
  have e5:IntKind.i64.wrap ((i:Int)+1)=((i+1:Nat):Int):=by rw[i64_in (by omega)];omega
  rw[e3,e4,e5]
  refine⟨_,_,bY ⟨by simp only[List.length_cons,List.length_nil];omega,by simp only[List.length_cons,List.length_nil];omega⟩ rfl,by omega,hi1,?_,by simp only[List.length_append,List.length_cons,List.length_nil];omega⟩
  rw[←ho,List.append_assoc]
  rw[show(c+X%10000+Y%10000)/10000+X/10000+Y/10000=(c+X+Y)/10000 from by omega]
  rfl
theorem Dq(x y:Nat)(hx:sm x)(hy:sm y):mo (az x) (az y)=some (az (x+y)):=by
 have lt:(az (x+y)).length<=4398046511105:=Nat.le_trans (pj _) (oo hx hy)
 unfold mo
 obtain⟨r,hr,rfl⟩:=bI (body:=fun(s:Int×Int×(List Int))=>fX (az x) (az y) s.1 s.2.1 s.2.2) (0,0,[])
  (fun s=>∃c i:Nat,s.1=(c:Int)/\s.2.1=(i:Int)/\c<=1/\i<=4398046511105/\s.2.2++az (c+x/10000^i+y/10000^i)=az (x+y)/\s.2.2.length=i)
  (fun s=>(4398046511106-s.2.1).toNat) (fun r=>r=az (x+y)) ⟨0,0,rfl,rfl,by decide,by decide,by simp,rfl⟩ (by
  rintro⟨c',i',out⟩ ⟨c,i,hc,hi,hc1,hi1,ho,hl⟩
  simp only at hc hi ho hl|-
  subst hc;subst hi
  have hm:(4398046511106-((i+1:Nat):Int)).toNat<(4398046511106-(i:Int)).toNat:=by omega
  rcases yH (az x) (az y) _ out c i _ _ hc1 (iw i x) (iw i y) (fun h=>jf h) (fun h=>jf h) lt ho hl with⟨c2,out2,e,h1,h2,h3,h4⟩|⟨e,h⟩
  ·left
   refine⟨_,e,⟨c2,i+1,rfl,rfl,h1,h2,?_,h4⟩,hm⟩
   rw[dB,dB];exact h3
  ·right
   exact⟨_,e,h⟩)
 rw[hr];rfl
end Go.Am
namespace Go.Am
open Go.RowKit
theorem xk(dx dy out:List Int)(w i X Y:Nat)(T P:Int)(hw:w<=1)(gx:i<dx.length↔X≠0)(gy:i<dy.length↔Y≠0)(ex:i<dx.length->ix dx (i:Int)=some ((X%10000:Nat):Int))(ey:i<dy.length->ix dy (i:Int)=some ((Y%10000:Nat):Int))
  (lt:dx.length<=4398046511105)(hP:P=((10000^i:Nat):Int))(hV:v10 out+P*((X:Int)-Y-w)=T)(hok:iB out)(hl:out.length=i)(hi:i<dx.length):
  ∃w' d,fq dx dy (w:Int) (i:Int) out=some (.next (((w':Nat):Int),((i+1:Nat):Int),out++[d]))/\w'<=1/\v10 (out++[d])+P*10000*(((X/10000:Nat):Int)-((Y/10000:Nat):Int)-w')=T/\iB (out++[d])/\(out++[d]).length=i+1:=by
 unfold fq
 have hi':(i:Int)<(dx.length:Int):=by omega
 rw[if_pos (decide_eq_true hi'),ex hi,Option.bind_some]
 have e1:(if(decide ((i:Int)<(dy.length:Int)))=true then(ix dy (i:Int)).bind fun v18=>some ((IntKind.i64.wrap ((IntKind.i64.wrap (((X%10000:Nat):Int)-(w:Int)))-v18)))else some ((IntKind.i64.wrap (((X%10000:Nat):Int)-(w:Int)))))=some (((X%10000:Nat):Int)-(w:Int)-((Y%10000:Nat):Int)):=by
  have e0:IntKind.i64.wrap (((X%10000:Nat):Int)-(w:Int))=((X%10000:Nat):Int)-(w:Int):=i64_in (by omega)
  by_cases h1:i<dy.length
  ·rw[if_pos (decide_eq_true (by omega)),ey h1,Option.bind_some,e0,i64_in (by omega)]
  ·have h3:Y=0:=Classical.byContradiction fun h=>h1 (gy.2 h)
   rw[if_neg (by simp;omega),e0,h3];congr 1;omega
 rw[e1,Option.bind_some]
 have hol:=hl
 have key:∀(w':Nat) (d:Int),(X:Int)-Y-w=d+10000*(((X/10000:Nat):Int)-((Y/10000:Nat):Int)-w')->v10 (out++[d])+P*10000*(((X/10000:Nat):Int)-((Y/10000:Nat):Int)-w')=T:=by
  intro w' d h
  rw[h]at hV
  rw[nR,hl,←hP,←hV,Int.mul_add,Int.mul_assoc]
  rw[show v10 [d]=d from by simp[v10],Int.add_assoc]
 have hm:∀d:Int,(out.length+([d]).length)*8<=140737488355328/\out.length+([d]).length<=9223372036854775807:=by
  intro d;simp only[List.length_cons,List.length_nil];omega
 have e5:IntKind.i64.wrap ((i:Int)+1)=((i+1:Nat):Int):=by rw[i64_in (by omega)];omega
 by_cases hn:((X%10000:Nat):Int)-(w:Int)-((Y%10000:Nat):Int)<0
 ·rw[if_pos (decide_eq_true hn),Option.bind_some]
  dsimp only
  have e6:IntKind.i64.wrap (((X%10000:Nat):Int)-(w:Int)-((Y%10000:Nat):Int)+10000)=((X%10000:Nat):Int)-(w:Int)-((Y%10000:Nat):Int)+10000:=i64_in (by omega)
  rw[e5,e6]
  refine⟨1,_,bY (hm _) rfl,by omega,key _ _ (by omega),?_,by simp[hl]⟩
  rw[pO,dm]
  exact⟨hok,⟨by omega,by omega⟩,oa⟩
 ·rw[if_neg (by simpa using hn),Option.bind_some]
  dsimp only
  rw[e5]
  refine⟨0,_,bY (hm _) rfl,by omega,key _ _ (by omega),?_,by simp[hl]⟩
  rw[pO,dm]
  exact⟨hok,⟨by omega,by omega⟩,oa⟩
theorem oe(x y:Nat)(hx:sm x)(hyx:y<=x):ic (az x) (az y)=some (az (x-y)):=by
 have lx:(az x).length<=4398046511104:=eZ hx
 unfold ic
 obtain⟨r,hr,hq⟩:=bI (body:=fun(s:Int×Int×(List Int))=>fq (az x) (az y) s.1 s.2.1 s.2.2) (0,0,[])
  (fun s=>∃w i:Nat,s.1=(w:Int)/\s.2.1=(i:Int)/\w<=1/\i<=(az x).length/\v10 s.2.2+((10000^i:Nat):Int)*(((x/10000^i:Nat):Int)-((y/10000^i:Nat):Int)-w)=(x:Int)-y/\iB s.2.2/\s.2.2.length=i)
  (fun s=>((az x).length-s.2.1).toNat) (fun r=>iB r/\v10 r=(x:Int)-y/\r.length=(az x).length) ⟨0,0,rfl,rfl,by decide,Nat.zero_le _,by simp[v10],oa,rfl⟩ (by
  rintro⟨w',i',out⟩ ⟨w,i,hw,hi,hw1,hi1,hV,hok,hl⟩
  simp only at hw hi hV hok hl|-
  subst hw;subst hi
  by_cases hlt:i<(az x).length
  ·left
   obtain⟨w2,d,e,h1,h2,h3,h4⟩:=xk (az x) (az y) out w i _ _ _ _ hw1 (iw i x) (iw i y) (fun h=>jf h) (fun h=>jf h) (Nat.le_trans lx (by decide)) rfl hV hok hl hlt
   refine⟨_,e,⟨w2,i+1,rfl,rfl,h1,hlt,?_,h3,h4⟩,?_⟩
   ·simp only
    rw[dB,dB,Nat.pow_succ,Int.natCast_mul]
    exact h2
   ·simp only;omega
  ·right
   have hX:x/10000^i=0:=Classical.byContradiction fun h=>hlt ((iw i x).2 h)
   have hY:y/10000^i=0:=Nat.le_zero.1 (hX▸Nat.div_le_div_right hyx)
   unfold fq
   rw[if_neg (by simp;omega)]
   refine⟨_,rfl,hok,?_,by omega⟩
   rw[hX,hY]at hV
   have hb:=Bk hok
   rw[hl]at hb
   have:w=0:=by
    apply Classical.byContradiction
    intro h
    have:w=1:=by omega
    subst this
    generalize ((10000^i:Nat):Int)=P at*
    omega
   subst this
   generalize ((10000^i:Nat):Int)=P at*
   omega)
 obtain⟨h1,h2,h3⟩:=hq
 rw[hr]
 simp only[Option.bind_some]
 rw[qJ r h1 (by rw[h3];exact Nat.le_trans lx (by decide)),h2,Option.bind_some]
 congr 2;omega
theorem xq(dx dy out:List Int)(i j c y T:Nat)(D:Nat)(hD:D<10000)(hc:c<10000)(lx:dx.length<=4398046511105)(ly:dy.length<=4398046511105)(hi:i<dx.length)(ex:ix dx (i:Int)=some (D:Int))
  (hdy:dy=az y)(hok:iB out)(hol:out.length=dx.length+dy.length)(hT:T<10000^(i+1+dy.length))
  (hV:v10 out+((10000^(i+j)*(c+D*(y/10000^j)):Nat):Int)=(T:Int)):
  (∃c' out',fA dx dy (i:Int) (c:Int) (j:Int) out=some (.next (((c':Nat):Int),((j+1:Nat):Int),out'))/\c'<10000/\j+1<=dy.length+1/\iB out'/\out'.length=out.length/\v10 out'+((10000^(i+(j+1))*(c'+D*(y/10000^(j+1))):Nat):Int)=(T:Int))\/
  (fA dx dy (i:Int) (c:Int) (j:Int) out=some (.done out)/\v10 out=(T:Int)):=by
 have gy:=iw j y
 rw[←hdy]at gy
 unfold fA
 by_cases hz:y/10000^j=0/\c=0
 ·right
  obtain⟨h1,rfl⟩:=hz
  have h3:¬j<dy.length:=fun h=>gy.1 h h1
  rw[if_neg (by simp;omega),if_neg (by decide),Option.bind_some]
  refine⟨rfl,?_⟩
  rw[h1]at hV;simpa using hV
 ·left
  have hgo:(if(decide ((j:Int)<(dy.length:Int)))=true then some (Ex.da ())else(if(decide ((c:Int)>0))=true then some (Ex.da ())else some (Ex.ret ())):Option (Ex Unit Unit))=some (Ex.da ()):=by
   by_cases h1:j<dy.length
   ·rw[if_pos (decide_eq_true (by omega))]
   ·rw[if_neg (by simp;omega),if_pos (decide_eq_true ?_)]
    have h3:y/10000^j=0:=Classical.byContradiction fun h=>h1 (gy.2 h)
    have:c≠0:=fun h=>hz ⟨h3,h⟩
    omega
  rw[hgo,Option.bind_some]
  dsimp only
  have hn:=ni hok
  have hpos:0<c+D*(y/10000^j)\/(j<dy.length):=by
   by_cases h1:j<dy.length
   ·right;exact h1
   ·left
    have h3:y/10000^j=0:=Classical.byContradiction fun h=>h1 (gy.2 h)
    have:c≠0:=fun h=>hz ⟨h3,h⟩
    omega
  have hj:j<dy.length+1/\i+j<dx.length+dy.length:=by
   rcases hpos with h|h
   ·have h1:10000^(i+j)<=T:=by
     have:=Nat.mul_le_mul_left (10000^(i+j)) h
     rw[Nat.mul_succ,Nat.mul_zero,Nat.zero_add]at this
     omega
    have h2:i+j<i+1+dy.length:=(Nat.pow_lt_pow_iff_right (by decide)).1 (Nat.lt_of_le_of_lt h1 hT)
    omega
   ·omega
  have ew:IntKind.i64.wrap ((i:Int)+(j:Int))=((i+j:Nat):Int):=by rw[i64_in (by omega)];omega
  have hlt:i+j<out.length:=by omega
  rw[ew,et hlt,Option.bind_some]
  have ho:=hok _ (List.getElem_mem hlt)
  obtain⟨o,hoo⟩:∃o:Nat,out[i+j]=(o:Int):=⟨out[i+j].toNat,by omega⟩
  have hset:∀d,v10 (out.set (i+j) d)=v10 out+((10000^(i+j):Nat):Int)*(d-(o:Int)):=fun d=>by rw[tI hlt,hoo]
  rw[hoo]at ho|-
  have hprod:D*(y/10000^j%10000)<=9999*9999:=Nat.mul_le_mul (by omega) (by omega)
  have e1:(if(decide ((j:Int)<(dy.length:Int)))=true then(ix dx (i:Int)).bind fun v31=>(ix dy (j:Int)).bind fun v33=>some ((IntKind.i64.wrap ((IntKind.i64.wrap ((o:Int)+(c:Int)))+(IntKind.i64.wrap (v31*v33)))))else some ((IntKind.i64.wrap ((o:Int)+(c:Int)))))=some ((o+c+D*(y/10000^j%10000):Nat):Int):=by
   have e0:IntKind.i64.wrap ((o:Int)+(c:Int))=((o+c:Nat):Int):=by rw[i64_in (by omega)];omega
   rw[e0]
   by_cases h1:j<dy.length
   ·have hiy:ix dy (j:Int)=some ((y/10000^j%10000:Nat):Int):=by rw[hdy]at h1|-;exact jf h1
    rw[if_pos (decide_eq_true (by omega)),ex,hiy,Option.bind_some,Option.bind_some,←Int.natCast_mul]
    generalize D*(y/10000^j%10000)=Q at*
    rw[i64_in (n:=(Q:Int)) (by omega),i64_in (by omega)];congr 1
   ·have h3:y/10000^j=0:=Classical.byContradiction fun h=>h1 (gy.2 h)
    rw[if_neg (by simp;omega),h3];simp
  rw[e1,Option.bind_some,Option.bind_some]
  have hdm:D*(y/10000^j)=D*(y/10000^j%10000)+10000*(D*(y/10000^(j+1))):=by
   rw[dB,←Nat.mul_assoc,Nat.mul_comm 10000 D,Nat.mul_assoc,←Nat.mul_add,Nat.mod_add_div]
  have hS:o+c+D*(y/10000^j%10000)<100000000:=by omega
  generalize hSe:o+c+D*(y/10000^j%10000)=S at*
  have e3:Int.tmod (S:Int) 10000=((S%10000:Nat):Int):=by
   rw[Int.tmod_eq_emod_of_nonneg (by omega)];omega
  have e4:IntKind.i64.wrap (Int.tdiv (S:Int) 10000)=((S/10000:Nat):Int):=by
   rw[Int.tdiv_eq_ediv_of_nonneg (by omega),i64_in (by omega)];omega
  have e5:IntKind.i64.wrap ((j:Int)+1)=((j+1:Nat):Int):=by rw[i64_in (by omega)];omega
  rw[e3,e4,e5,Int.toNat_natCast]
  refine⟨_,_,rfl,by omega,by omega,qU hok (by omega) (by omega),by rw[List.length_set],?_⟩
  rw[hset,←hV]
  have hk:c+D*(y/10000^j)+o=S%10000+10000*(S/10000+D*(y/10000^(j+1))):=by
   rw[hdm]
   generalize D*(y/10000^(j+1))=R at*
   omega
  rw[show i+(j+1)=i+j+1 from rfl,Nat.pow_succ,Nat.mul_assoc]
  generalize 10000^(i+j)=P at*
  generalize 10000*(S/10000+D*(y/10000^(j+1)))=U at*
  generalize S%10000=s at*
  generalize c+D*(y/10000^j)=C at*
  have h2:P*C+P*o=P*s+P*U:=by rw[←Nat.mul_add,hk,Nat.mul_add]
  rw[Int.mul_sub,←Int.natCast_mul,←Int.natCast_mul]
  omega
theorem uX(x y:Nat)(hx:sm x)(hy:sm y):jW (az x) (az y)=some (az (x*y)):=by
 have lx:(az x).length<=4398046511104:=eZ hx
 have ly:(az y).length<=4398046511104:=eZ hy
 have ew:IntKind.i64.wrap (((az x).length:Int)+((az y).length:Int))=(((az x).length+(az y).length:Nat):Int):=by rw[i64_in (by omega)];omega
 unfold jW
 rw[ew,Int.toNat_natCast]
 refine bY ⟨by omega,by omega,by omega⟩ ?_
 obtain⟨r,hr,hq⟩:=bI (body:=fun(s:Int×(List Int))=>iI (az x) (az y) s.1 s.2) (0,List.replicate ((az x).length+(az y).length) 0)
  (fun s=>∃i:Nat,s.1=(i:Int)/\i<=(az x).length/\iB s.2/\s.2.length=(az x).length+(az y).length/\v10 s.2=((x%10000^i*y:Nat):Int))
  (fun s=>((az x).length-s.1).toNat) (fun r=>iB r/\v10 r=((x*y:Nat):Int)/\r.length=(az x).length+(az y).length) ⟨0,rfl,Nat.zero_le _,vQ _,List.length_replicate,by simp only[];rw[um,Nat.pow_zero,Nat.mod_one,Nat.zero_mul];rfl⟩ (by
  rintro⟨i',out⟩ ⟨i,hi,hi1,hok,hl,hV⟩
  simp only at hi hok hl hV|-
  subst hi
  unfold iI
  by_cases hlt:i<(az x).length
  ·left
   rw[if_pos (decide_eq_true (by omega))]
   have hT:x%10000^(i+1)*y<10000^(i+1+(az y).length):=by
    rw[Nat.pow_add 10000 (i+1)]
    exact Nat.mul_lt_mul'' (Nat.mod_lt _ (kN _)) (jS y)
   have hsplit:x%10000^(i+1)=x%10000^i+10000^i*(x/10000^i%10000):=by
    rw[Nat.pow_succ,Nat.mod_mul]
   obtain⟨r,hr,hq⟩:=bI (body:=fun(s:Int×Int×(List Int))=>fA (az x) (az y) (i:Int) s.1 s.2.1 s.2.2) (0,0,out)
    (fun s=>∃c j:Nat,s.1=(c:Int)/\s.2.1=(j:Int)/\c<10000/\j<=(az y).length+1/\iB s.2.2/\s.2.2.length=(az x).length+(az y).length/\v10 s.2.2+((10000^(i+j)*(c+x/10000^i%10000*(y/10000^j)):Nat):Int)=((x%10000^(i+1)*y:Nat):Int))
    (fun s=>((az y).length+1-s.2.1).toNat) (fun r=>iB r/\r.length=(az x).length+(az y).length/\v10 r=((x%10000^(i+1)*y:Nat):Int))
    ⟨0,0,rfl,rfl,by decide,Nat.zero_le _,hok,hl,by
     simp only[]
     rw[hV,hsplit,Nat.add_zero,Nat.zero_add,Nat.pow_zero,Nat.div_one,Nat.add_mul,Nat.mul_assoc,Int.natCast_add]⟩ (by
    rintro⟨c',j',out'⟩ ⟨c,j,hc,hj,hc1,hj1,hok',hl',hV'⟩
    simp only at hc hj hok' hl' hV'|-
    subst hc;subst hj
    rcases xq (az x) (az y) out' i j c y _ _ (Nat.mod_lt _ (by decide)) hc1 (Nat.le_trans lx (by decide)) (Nat.le_trans ly (by decide)) hlt (jf hlt) rfl hok' hl' hT hV' with⟨c2,out2,e,h1,h2,h3,h4,h5⟩|⟨e,h⟩
    ·left
     refine⟨_,e,⟨c2,j+1,rfl,rfl,h1,h2,h3,by simp only;omega,h5⟩,by simp only;omega⟩
    ·right
     exact⟨_,e,hok',hl',h⟩)
   obtain⟨q1,q2,q3⟩:=hq
   rw[hr]
   simp only[Option.bind_some]
   have e5:IntKind.i64.wrap ((i:Int)+1)=((i+1:Nat):Int):=by rw[i64_in (by omega)];omega
   rw[e5]
   exact⟨_,rfl,⟨i+1,rfl,hlt,q1,q2,q3⟩,by simp only;omega⟩
  ·right
   rw[if_neg (by simp;omega)]
   have:i=(az x).length:=by omega
   subst this
   refine⟨_,rfl,hok,?_,hl⟩
   rw[hV,Nat.mod_eq_of_lt (jS x)])
 obtain⟨h1,h2,h3⟩:=hq
 rw[hr]
 simp only[Option.bind_some]
 rw[qJ r h1 (by rw[h3];omega),h2,Option.bind_some,Int.toNat_natCast]
end Go.Am
namespace Go.Am
open Go.RowKit
theorem q9(x f:Nat)(hx:(az x).length<=4398046511105)(hf:f<=4398046511105)(hb:x/10000^f<10000000000000000):eV (az x) (f:Int)=some ((x/10000^f:Nat):Int):=by
 unfold eV
 have e1:IntKind.i64.wrap (((az x).length:Int)-1)=((az x).length:Int)-1:=i64_in (by omega)
 rw[e1]
 by_cases hlf:(az x).length<=f
 ·have hb:fl (az x) (f:Int) 0 (((az x).length:Int)-1)=some (.done 0):=by
   unfold fl;rw[if_neg (by simp;omega)]
  have hz:x/10000^f=0:=Classical.byContradiction fun h=>absurd ((iw f x).2 h) (by omega)
  rw[fI (body:=fun(s:Int×Int)=>fl (az x) (f:Int) s.1 s.2) hb,hz];rfl
 obtain⟨r,hr,rfl⟩:=bI (body:=fun(s:Int×Int)=>fl (az x) (f:Int) s.1 s.2) (0,(((az x).length:Int)-1))
  (fun s=>∃k:Nat,s.2=(k:Int)-1/\f<=k/\k<=(az x).length/\s.1=((x/10000^k:Nat):Int)) (fun s=>(s.2+1).toNat) (fun r=>r=((x/10000^f:Nat):Int)) ⟨_,rfl,by omega,Nat.le_refl _,by simp only[];rw[lj];rfl⟩ (by
  rintro⟨v,s⟩ ⟨k,hs,hk1,hk2,hv⟩
  simp only at hs hv|-
  subst hs;subst hv
  unfold fl
  by_cases hkf:k=f
  ·right
   subst hkf
   rw[if_neg (by simp;omega)]
   exact⟨_,rfl,rfl⟩
  ·left
   obtain⟨k,rfl⟩:∃m,k=m+1:=⟨k-1,by omega⟩
   have ek:((k+1:Nat):Int)-1=(k:Int):=by omega
   have hmono:x/10000^k<=x/10000^f:=Nat.div_le_div_left (Nat.pow_le_pow_right (by decide) (by omega)) (kN f)
   rw[ek,if_pos (decide_eq_true (by omega)),jf (by omega),Option.bind_some,dB]
   generalize hX:x/10000^k=X at*
   refine⟨_,rfl,⟨k,?_,by omega,by omega,?_⟩,?_⟩
   ·simp only;rw[i64_in (by omega)]
   ·simp only;rw[hX,i64_in (n:=(((X/10000:Nat)):Int)*10000) (by omega),i64_in (by omega)];omega
   ·simp only;rw[i64_in (by omega)];omega)
 rw[hr];rfl
theorem wX(y:Nat)(hy:y≠0)(hsy:sm y)(R:Nat)(hR:sm R)(hq:R/y<10000)(g:Nat)(hg:y*g<=R):
  Loop (fun(s:(List Int)×Int)=>hZ (az y) s.1 s.2) (az (R-y*g),(g:Int))=some (az (R%y),((R/y:Nat):Int)):=by
 obtain⟨r,hr,rfl⟩:=bI (body:=fun(s:(List Int)×Int)=>hZ (az y) s.1 s.2) (az (R-y*g),(g:Int))
  (fun s=>∃k:Nat,y*k<=R/\s=(az (R-y*k),(k:Int))) (fun s=>(10000-s.2).toNat) (fun r=>r=(az (R%y),((R/y:Nat):Int))) ⟨g,hg,rfl⟩ (by
  rintro s ⟨k,hk,rfl⟩
  simp only
  unfold hZ
  have hs:sm (R-y*k):=lQ (Nat.sub_le _ _) hR
  have hkq:k<=R/y:=(Nat.le_div_iff_mul_le (Nat.pos_of_ne_zero hy)).2 (by rw[Nat.mul_comm];exact hk)
  rw[wK _ _ hs hsy,Option.bind_some]
  by_cases hc:y<=R-y*k
  ·left
   have h2:y*(k+1)<=R:=by rw[Nat.mul_succ];omega
   have hkq2:k+1<=R/y:=(Nat.le_div_iff_mul_le (Nat.pos_of_ne_zero hy)).2 (by rw[Nat.mul_comm];exact h2)
   rw[if_pos (decide_eq_true (oV hc)),oe _ _ hs hc,Option.bind_some]
   have e:IntKind.i64.wrap ((k:Int)+1)=((k+1:Nat):Int):=by rw[i64_in (by omega)];omega
   rw[e]
   refine⟨_,rfl,⟨k+1,h2,?_⟩,by simp only;omega⟩
   rw[Nat.mul_succ,Nat.sub_sub]
  ·right
   have hcm:fg (R-y*k) y=-1:=by unfold fg;rw[if_pos (by omega)]
   rw[hcm,if_neg (by decide)]
   refine⟨_,rfl,?_⟩
   have h3:R/y=k:=by
    apply Nat.le_antisymm _ hkq
    apply Nat.le_of_lt_succ
    rw[Nat.div_lt_iff_lt_mul (Nat.pos_of_ne_zero hy),Nat.succ_mul,Nat.mul_comm k y];omega
   have h4:=Nat.div_add_mod R y
   rw[h3]at h4
   rw[h3,show R-y*k=R%y from by omega])
 exact hr
theorem Bh(y R:Nat)(hy:y≠0)(ly:(az y).length<=4398046511104)(lR:(az R).length<=4398046511104)(hR:R<10000*y):
  ∃g:Nat,(if(decide (((az y).length:Int)<=3))=true then(eV (az R) 0).bind fun v22=>(eV (az y) 0).bind fun v24=>bZ ((v24:Int)≠0) (some ((IntKind.i64.wrap (Int.tdiv v22 v24))))else(if(decide (((az R).length:Int)>=((az y).length:Int)))=true then(eV (az R) (IntKind.i64.wrap (((az y).length:Int)-3))).bind fun v28=>(eV (az y) (IntKind.i64.wrap (((az y).length:Int)-3))).bind fun v30=>bZ (((IntKind.i64.wrap (v30+1)):Int)≠0) (some ((IntKind.i64.wrap (Int.tdiv v28 (IntKind.i64.wrap (v30+1))))))else some (0)))=some (g:Int)/\g<=R/y:=by
 have hby:=jS y
 by_cases h3:(az y).length<=3
 ·rw[if_pos (decide_eq_true (by omega))]
  have hy3:y<1000000000000:=Nat.lt_of_lt_of_le hby (show(10000:Nat)^(az y).length<=10000^3 from Nat.pow_le_pow_right (by decide) h3)
  have e1:=q9 R 0 (by omega) (by omega) (by rw[Nat.pow_zero,Nat.div_one];omega)
  have e2:=q9 y 0 (by omega) (by omega) (by rw[Nat.pow_zero,Nat.div_one];omega)
  rw[Nat.pow_zero,Nat.div_one]at e1 e2
  have e1':eV (az R) 0=some (R:Int):=e1
  have e2':eV (az y) 0=some (y:Int):=e2
  rw[e1',e2',Option.bind_some,Option.bind_some]
  refine⟨R/y,bY (by omega) ?_,Nat.le_refl _⟩
  have hq:R/y<=R:=Nat.div_le_self _ _
  rw[Int.tdiv_eq_ediv_of_nonneg (by omega),←Int.natCast_ediv]
  generalize R/y=q at*
  rw[i64_in (by omega)]
 ·rw[if_neg (by simp;omega)]
  by_cases hl:(az y).length<=(az R).length
  ·rw[if_pos (decide_eq_true (by omega))]
   obtain⟨f,hf⟩:∃f,(az y).length=f+3:=⟨(az y).length-3,by omega⟩
   have ef:IntKind.i64.wrap (((az y).length:Int)-3)=(f:Int):=by rw[i64_in (by omega)];omega
   rw[hf,Nat.pow_add]at hby
   have hp:=kN f
   have h4:y/10000^f<10000^3:=Nat.div_lt_of_lt_mul hby
   have h5:R/10000^f<10000^4:=by
    apply Nat.div_lt_of_lt_mul
    rw[show 10000^f*10000^4=10000*(10000^f*10000^3)from by rw[←Nat.pow_add,←Nat.pow_add,←Nat.pow_succ']]
    omega
   have p3:(10000:Nat)^3=1000000000000:=by decide
   have p4:(10000:Nat)^4=10000000000000000:=by decide
   rw[p3]at h4;rw[p4]at h5
   have hf2:f<=4398046511105:=by omega
   rw[ef,q9 R f (by omega) hf2 h5,q9 y f (by omega) hf2 (by omega),Option.bind_some,Option.bind_some]
   have hg:R/10000^f/(y/10000^f+1)<=R/y:=by
    rw[Nat.div_div_eq_div_mul]
    apply Nat.div_le_div_left _ (Nat.pos_of_ne_zero hy)
    have:=Nat.div_add_mod y (10000^f)
    have:=Nat.mod_lt y hp
    rw[Nat.mul_succ];omega
   generalize R/10000^f=A at*
   generalize y/10000^f=C at*
   have e6:IntKind.i64.wrap ((C:Int)+1)=((C+1:Nat):Int):=by rw[i64_in (by omega)];omega
   rw[e6]
   refine⟨A/(C+1),bY (by omega) ?_,hg⟩
   have hq:A/(C+1)<=A:=Nat.div_le_self _ _
   rw[Int.tdiv_eq_ediv_of_nonneg (by omega),←Int.natCast_ediv]
   generalize A/(C+1)=q at*
   rw[i64_in (by omega)]
  ·rw[if_neg (by simp;omega)]
   exact⟨0,rfl,Nat.zero_le _⟩
theorem zy(x y i:Nat)(out:List Int)(hy:y≠0)(hx:sm x)(hsy:sm y)(hi:i<(az x).length)(hol:out.length=(az x).length):
  fW (az x) (az y) (az (x/10000^(i+1)%y)) (i:Int) out=some (.next (az (x/10000^i%y),(i:Int)-1,out.set i (((x/10000^i%10000+10000*(x/10000^(i+1)%y))/y:Nat):Int))):=by
 have lx:=eZ hx
 have ly:=eZ hsy
 unfold fW
 rw[if_pos (decide_eq_true (by omega)),jf hi,Option.bind_some]
 have hXx:x/10000^i<=x:=Nat.div_le_self _ _
 rw[dB]
 generalize x/10000^i=X at*
 have hρ:X/10000%y<=X/10000:=Nat.mod_le _ _
 have hρy:X/10000%y<y:=Nat.mod_lt _ (Nat.pos_of_ne_zero hy)
 have hmod:X%y=(X%10000+10000*(X/10000%y))%y:=by
  conv=>lhs;rw[←Nat.mod_add_div X 10000]
  rw[Nat.add_mod,Nat.mul_mod,Nat.add_mod (X%10000),Nat.mul_mod 10000 (X/10000%y),Nat.mod_mod]
 rw[hmod]
 generalize hr:X/10000%y=ρ at*
 generalize hd:X%10000=d at*
 have hd4:d<10000:=by omega
 have hRx:d+10000*ρ<=x:=by omega
 have hRs:sm (d+10000*ρ):=lQ hRx hx
 have lρ:(az ρ).length<=4398046511104:=eZ (lQ (by omega) hRs)
 have htr:iE ([(d:Int)]++az ρ)=some (az (d+10000*ρ)):=by
  rw[qJ _ (by rw[List.singleton_append,dm];exact⟨⟨by omega,by omega⟩,xM _⟩) (by simp only[List.length_append,List.length_cons,List.length_nil];omega)]
  congr 2
  rw[List.singleton_append,v10,rW];omega
 rw[aQ ⟨by simp only[List.length_cons,List.length_nil];omega,by simp only[List.length_cons,List.length_nil];omega⟩,htr,Option.bind_some]
 have hR:d+10000*ρ<10000*y:=by omega
 generalize d+10000*ρ=R at*
 obtain⟨g,eg,hg⟩:=Bh y R hy ly (eZ hRs) hR
 rw[eg,Option.bind_some]
 have hq:R/y<10000:=by rw[Nat.div_lt_iff_lt_mul (Nat.pos_of_ne_zero hy)];exact hR
 have hgi:eE (g:Int):=by unfold eE;omega
 rw[mQ _ hgi,Option.bind_some]
 dsimp only
 have hyg:y*g<=R:=by rw[Nat.mul_comm];exact(Nat.le_div_iff_mul_le (Nat.pos_of_ne_zero hy)).1 hg
 rw[Int.natAbs_natCast,uX y g hsy (iA (by omega)),Option.bind_some,oe R (y*g) hRs hyg,Option.bind_some,wX y hy hsy R hRs hq g hyg,Option.bind_some]
 dsimp only
 rw[et (by omega),Option.bind_some,i64_in (by omega),Int.toNat_natCast]
theorem uo(x y:Nat)(hy:y≠0)(hx:sm x)(hsy:sm y):kg (az x) (az y)=some (az (x/y),az (x%y)):=by
 have lx:=eZ hx
 unfold kg
 refine bY ⟨by omega,by omega,by omega⟩ ?_
 have e1:IntKind.i64.wrap (((az x).length:Int)-1)=((az x).length:Int)-1:=i64_in (by omega)
 rw[e1,Int.toNat_natCast]
 obtain⟨r,hr,hq⟩:=bI (body:=fun(s:(List Int)×Int×(List Int))=>fW (az x) (az y) s.1 s.2.1 s.2.2) ([],(((az x).length:Int)-1),List.replicate (az x).length 0)
  (fun s=>∃k:Nat,s.2.1=(k:Int)-1/\k<=(az x).length/\s.1=az (x/10000^k%y)/\s.2.2.length=(az x).length/\iB s.2.2/\(∀j,j<k->s.2.2[j]?=some 0)/\v10 s.2.2=((10000^k*(x/10000^k/y):Nat):Int))
  (fun s=>(s.2.1+1).toNat) (fun r=>r.1=az (x%y)/\r.2.length=(az x).length/\iB r.2/\v10 r.2=((x/y:Nat):Int)) ⟨_,rfl,Nat.le_refl _,by simp only[];rw[lj,Nat.zero_mod,cM],List.length_replicate,vQ _,fun j hj=>by simp only[];rw[List.getElem?_replicate,if_pos hj],by simp only[];rw[um,lj,Nat.zero_div,Nat.mul_zero];rfl⟩ (by
  rintro⟨r,s,out⟩ ⟨k,hs,hk,hr,hl,hok,hz,hV⟩
  simp only at hs hr hl hok hz hV|-
  subst hs;subst hr
  cases k with
  |zero=>
   right
   unfold fW
   rw[if_neg (by decide)]
   refine⟨_,rfl,?_,hl,hok,?_⟩
   ·simp only[];rw[Nat.pow_zero,Nat.div_one]
   ·simp only[];rw[hV,Nat.pow_zero,Nat.div_one,Nat.one_mul]
  |succ i=>
   left
   have ek:((i+1:Nat):Int)-1=(i:Int):=by omega
   rw[ek,zy x y i out hy hx hsy (by omega) hl]
   have hoi:=hz i (by omega)
   rw[List.getElem?_eq_getElem (by omega)]at hoi
   injection hoi with hoi
   have hQ:(x/10000^i%10000+10000*(x/10000^(i+1)%y))/y<10000:=by
    have:=Nat.mod_lt (x/10000^(i+1)) (Nat.pos_of_ne_zero hy)
    rw[Nat.div_lt_iff_lt_mul (Nat.pos_of_ne_zero hy)];omega
   refine⟨_,rfl,⟨i,rfl,by omega,rfl,by simp only[];rw[List.length_set];exact hl,qU hok (Int.natCast_nonneg _) (Int.ofNat_lt.2 hQ),?_,?_⟩,by simp only[];omega⟩
   ·intro j hj
    simp only[]
    rw[List.getElem?_set_ne (by omega)];exact hz j (by omega)
   ·simp only[]
    rw[tI (by omega),hoi,hV,Int.sub_zero,←Int.natCast_mul,←Int.natCast_add]
    congr 1
    rw[Nat.pow_succ,Nat.mul_assoc,←Nat.mul_add]
    congr 1
    rw[←Nat.pow_succ,dB]
    generalize x/10000^i=X
    have h1:X=X%10000+10000*(X/10000%y)+y*(10000*(X/10000/y)):=by
     have h2:=Nat.mod_add_div (X/10000) y
     have h3:=Nat.mod_add_div X 10000
     have h4:y*(10000*(X/10000/y))=10000*(y*(X/10000/y)):=by rw[←Nat.mul_assoc,Nat.mul_comm y 10000,Nat.mul_assoc]
     rw[h4];omega
    conv=>rhs;rw[h1]
    rw[Nat.add_mul_div_left _ _ (Nat.pos_of_ne_zero hy)];omega)
 obtain⟨h1,h2,h3,h4⟩:=hq
 rw[hr]
 simp only[Option.bind_some]
 rw[qJ r.2 h3 (by omega),h4,Option.bind_some,Int.toNat_natCast,h1]
end Go.Am
namespace Go.Am
open Go.RowKit
theorem vX(n:Nat):decide (((az n).length:Int)>0)=decide (n≠0):=by
 by_cases h:n=0
 ·subst h;rw[cM];rfl
 ·have:(az n).length≠0:=fun k=>h (py.1 k)
  rw[decide_eq_true h,decide_eq_true (by omega)]
theorem zh(n:Nat):(((az n).length:Int)==0)=decide (n=0):=by
 by_cases h:n=0
 ·subst h;rw[cM];rfl
 ·have:(az n).length≠0:=fun k=>h (py.1 k)
  rw[decide_eq_false h,beq_eq_false_iff_ne];omega
theorem kW(neg:Bool)(n:Nat):dJ neg (az n)=some (decide (sg neg n<0),az (sg neg n).natAbs):=by
 unfold dJ
 rw[mu,vX]
 cases neg
 ·rw[if_neg (by decide)];unfold sg;rw[if_neg (by decide),decide_eq_false (by omega)]
 ·rw[if_pos rfl];unfold sg;rw[if_pos rfl]
  by_cases h:n=0
  ·subst h;rfl
  ·rw[decide_eq_true h,decide_eq_true (by omega)]
theorem uH(z:Int):j1 (decide (z<0)) (az z.natAbs)=some (decide (-z<0),az (-z).natAbs):=by
 unfold j1;rw[kW,Bp];rfl
theorem Cm(z w:Int)(hz:sm z.natAbs)(hw:sm w.natAbs):ma (decide (z<0)) (az z.natAbs) (decide (w<0)) (az w.natAbs)=some (decide (z+w<0),az (z+w).natAbs):=by
 unfold ma
 have e1:∀(neg:Bool) (n:Nat),sg neg n=z+w->dJ neg (az n)=some (decide (z+w<0),az (z+w).natAbs):=fun neg n h=>by rw[kW,h]
 by_cases hs:(decide (z<0)==decide (w<0))=true
 ·rw[if_pos hs,Dq _ _ hz hw,Option.bind_some,e1]
  ·rfl
  ·unfold sg
   rw[beq_iff_eq]at hs
   by_cases h:z<0
   ·rw[decide_eq_true h]at*
    have hs:=of_decide_eq_true hs.symm
    rw[if_pos rfl];omega
   ·rw[decide_eq_false h]at*
    have hs:=of_decide_eq_false hs.symm
    rw[if_neg (by decide)];omega
 ·rw[if_neg hs,wK _ _ hz hw,Option.bind_some]
  have hs2:(z<0/\0<=w)\/(0<=z/\w<0):=by
   rw[beq_iff_eq]at hs
   by_cases h:z<0<;>by_cases k:w<0
   ·rw[decide_eq_true h,decide_eq_true k]at hs;exact absurd rfl hs
   ·left;omega
   ·right;omega
   ·rw[decide_eq_false h,decide_eq_false k]at hs;exact absurd rfl hs
  by_cases hc:w.natAbs<=z.natAbs
  ·rw[if_pos (decide_eq_true (oV hc)),oe _ _ hz hc,Option.bind_some,e1]
   ·rfl
   ·unfold sg;split<;>rename_i h<;>simp only[decide_eq_true_eq]at h<;>omega
  ·have:fg z.natAbs w.natAbs=-1:=by unfold fg;rw[if_pos (by omega)]
   rw[this,if_neg (by decide),oe _ _ hw (by omega),Option.bind_some,e1]
   ·rfl
   ·unfold sg;split<;>rename_i h<;>simp only[decide_eq_true_eq]at h<;>omega
theorem qe(z w:Int)(hz:sm z.natAbs)(hw:sm w.natAbs):e_ (decide (z<0)) (az z.natAbs) (decide (w<0)) (az w.natAbs)=some (decide (z*w<0),az (z*w).natAbs):=by
 unfold e_
 rw[uX _ _ hz hw,Option.bind_some,kW,xF];rfl
theorem u_(nb:Bool)(n:Nat)(hn:sm n):jT nb (az n)=some (if n<10000000000000000 then((n:Int),true)else(0,false)):=by
 have ln:=eZ hn
 have p4:(10000:Nat)^4=10000000000000000:=by decide
 unfold jT
 by_cases h:(az n).length<=4
 ·have hlt:n<10000000000000000:=Nat.lt_of_lt_of_le (jS n) (p4▸Nat.pow_le_pow_right (by decide) h)
  rw[if_neg (by simp;omega),if_pos hlt]
  have ht:=q9 n 0 (by omega) (by decide) (by rw[Nat.pow_zero,Nat.div_one];exact hlt)
  rw[Nat.pow_zero,Nat.div_one]at ht
  have ht:eV (az n) 0=some (n:Int):=ht
  have:jM (az n)=fl (az n) 0:=rfl
  rw[this]
  unfold eV at ht
  obtain⟨r,hr,h2⟩:=bind_some ht
  rw[hr]
  injection h2 with h2
  rw[h2];rfl
 ·have hge:¬n<10000000000000000:=by
   intro hc
   apply h
   exact pT (p4▸hc)
  rw[if_pos (decide_eq_true (by omega)),if_neg hge]
theorem y8:jz=fp:=rfl
theorem C6(na nb:Bool)(x y:Nat)(hx:sm x)(hy:sm y):my na (az x) nb (az y)=some (false,az (Nat.gcd x y)):=by
 obtain⟨r,hr,hq⟩:=bI (body:=fun(s:(List Int)×(List Int))=>jv s.1 s.2) (az x,az y) (fun s=>∃a b:Nat,s=(az a,az b)/\sm a/\sm b/\Nat.gcd a b=Nat.gcd x y) (fun s=>(v10 s.2).toNat) (fun r=>r=Ex.da (az (Nat.gcd x y))\/r=Ex.ret (false,az (Nat.gcd x y))) ⟨x,y,rfl,hx,hy,rfl⟩ (by
  rintro s ⟨a,b,rfl,ha,hb,hg⟩
  simp only
  unfold jv
  rw[vX]
  by_cases h0:b=0
  ·right
   subst h0
   rw[Nat.gcd_zero_right]at hg
   rw[if_neg (by decide)]
   exact⟨_,rfl,.inl (by rw[hg])⟩
  rw[if_pos (decide_eq_true h0),u_ _ _ ha,Option.bind_some]
  rw[u_ _ _ hb]
  simp only[Option.bind_some]
  by_cases h2:a<10000000000000000/\b<10000000000000000
  ·right
   rw[if_pos h2.1,if_pos h2.2]
   dsimp only
   rw[if_pos rfl,if_pos rfl,y8,sU,Option.bind_some]
   have hgle:Nat.gcd a b<=b:=Nat.gcd_le_right _ (Nat.pos_of_ne_zero h0)
   rw[mQ _ (by unfold eE;omega),Option.bind_some]
   dsimp only
   rw[Option.bind_some,Int.natAbs_natCast,hg,decide_eq_false (by omega)]
   exact⟨_,rfl,.inr rfl⟩
  ·left
   have hgo:∀(u v:Int×Bool),u=(if a<10000000000000000 then((a:Int),true)else(0,false))->v=(if b<10000000000000000 then((b:Int),true)else(0,false))->
    (if u.2=true then(if v.2=true then(Loop (fun(s:Int×Int)=>jz s.1 s.2) (u.1,v.1)).bind fun v30=>(eY v30).bind fun(v31,v32)=>some (Ex.ret (v31,v32))else some (Ex.da ()))else some (Ex.da ()):Option (Ex Unit (Bool×List Int)))=some (Ex.da ()):=by
    intro u v hu hv
    by_cases h3:a<10000000000000000
    ·have h4:¬b<10000000000000000:=fun h=>h2 ⟨h3,h⟩
     rw[if_neg h4]at hv
     rw[if_pos h3]at hu
     subst hu;subst hv
     rw[if_pos rfl,if_neg (by decide)]
    ·rw[if_neg h3]at hu
     subst hu
     rw[if_neg (by decide)]
   have:=hgo _ _ rfl rfl
   rw[this,Option.bind_some]
   dsimp only
   rw[uo a b h0 ha hb,Option.bind_some]
   refine⟨_,rfl,⟨b,a%b,rfl,hb,lQ (Nat.le_of_lt (Nat.mod_lt _ (Nat.pos_of_ne_zero h0))) hb,?_⟩,?_⟩
   ·rw[←hg,Nat.gcd_comm a b,Nat.gcd_rec b a,Nat.gcd_comm]
   ·simp only[rW,Int.toNat_natCast];exact Nat.mod_lt _ (Nat.pos_of_ne_zero h0))
 unfold my
 rw[hr]
 rcases hq with rfl|rfl<;>rfl
theorem kq(n:Nat):decide ((n:Int)<0)=false:=decide_eq_false (by omega)
end Go.Am
namespace Go.Am
open Go.RowKit
def dP:Nat->Nat->List Int
 |0,_=>[]
 |k+1,x=>((48+x%10:Nat):Int)::dP k (x/10)
theorem ym:∀k x,dP (k+1) x=dP k x++[((48+x/10^k%10:Nat):Int)]
 |0,x=>by simp[dP]
 |k+1,x=>by
  rw[dP,ym k (x/10),dP,List.cons_append,Nat.div_div_eq_div_mul,Nat.pow_succ,Nat.mul_comm]
theorem z7:∀k x,(dP k x).length=k
 |0,_=>rfl
 |k+1,x=>by rw[dP,List.length_cons,z7 k]
theorem DR:∀(m n:Nat),n<10^m->∃k,dP m n=dR n++List.replicate k 48
 |0,n,h=>by
  have:n=0:=by rw[Nat.pow_zero]at h;omega
  subst this
  exact⟨0,by rw[jc];rfl⟩
 |m+1,n,h=>by
  rw[Nat.pow_succ]at h
  obtain⟨k,hk⟩:=DR m (n/10) (by omega)
  by_cases h0:n=0
  ·subst h0
   rw[Nat.zero_div,jc,List.nil_append]at hk
   exact⟨k+1,by rw[dP,Nat.zero_div,hk,jc];rfl⟩
  ·exact⟨k,by rw[dP,hk,l3 h0];rfl⟩
theorem xS:∀(n:Nat),n≠0->∃d l,dR n=l++[((48+d:Nat):Int)]/\1<=d/\d<=9
 |n,h=>by
  rw[l3 h]
  by_cases h1:n/10=0
  ·exact⟨n%10,[],by rw[h1,jc];rfl,by omega,by omega⟩
  ·obtain⟨d,l,e,k⟩:=xS (n/10) h1
   exact⟨d,_::l,by rw[e];rfl,k⟩
termination_by n=>n
decreasing_by exact Nat.div_lt_self (Nat.pos_of_ne_zero h) (by decide)
theorem xa:∀d:Nat,d<10->(List.drop d (List.take (d+1) ([48,49,50,51,52,53,54,55,56,57]:List UInt8)))=[UInt8.ofNat (48+d)]:=by decide
theorem xx{X j:Nat}(hj:j<4):X%10000/10^j%10=X/10^j%10:=by
 rcases j with _|_|_|_|j
 ·simp only[Nat.pow_zero];omega
 ·rw[show 10^(0+1)=10 from rfl];omega
 ·rw[show 10^(0+1+1)=100 from rfl];omega
 ·rw[show 10^(0+1+1+1)=1000 from rfl];omega
 ·omega
theorem uk(t:List UInt8)(X j:Nat)(hX:X<10000)(hj:j<4)(ht:t.length<=100000000000000):
  dN t (X:Int) (j:Int)=some (.next (UInt8.ofNat (48+X%10)::t,((X/10:Nat):Int),((j+1:Nat):Int))):=by
 unfold dN
 have e1:Int.tmod (X:Int) 10=((X%10:Nat):Int):=by rw[Int.tmod_eq_emod_of_nonneg (by omega)];omega
 have e2:IntKind.i64.wrap (((X%10:Nat):Int)+1)=((X%10+1:Nat):Int):=by rw[i64_in (by omega)];omega
 have e3:IntKind.i64.wrap (Int.tdiv (X:Int) 10)=((X/10:Nat):Int):=by
  rw[Int.tdiv_eq_ediv_of_nonneg (by omega),i64_in (by omega)];omega
 have e4:IntKind.i64.wrap ((j:Int)+1)=((j+1:Nat):Int):=by rw[i64_in (by omega)];omega
 rw[if_pos (decide_eq_true (by omega)),e1,e2,e3,e4,Int.toNat_natCast,Int.toNat_natCast,xa _ (Nat.mod_lt _ (by decide))]
 exact bY ⟨by omega,by omega,by simp only[List.length_cons,List.length_nil];omega⟩ (bY (by simp only[List.length_cons,List.length_nil];omega) rfl)
theorem tU(t:List UInt8)(X:Int):dN t X 4=some (.done t):=by
 unfold dN;rw[if_neg (by decide)]
theorem rD(a b:List Int):bytesOf (a++b)=bytesOf a++bytesOf b:=List.map_append
theorem wF(k x:Nat):bytesOf (dP (k+1) x).reverse=UInt8.ofNat (48+x/10^k%10)::bytesOf (dP k x).reverse:=by
 rw[ym,List.reverse_append]
 simp only[List.reverse_cons,List.reverse_nil,List.nil_append,List.singleton_append,bytesOf,List.map_cons,Int.toNat_natCast]
theorem vv(i:Nat):10^(4*i)=10000^i:=by rw[Nat.pow_mul]
theorem xp(n i:Nat)(hi:i<=4398046511104):Loop (fun(s:(List UInt8)×Int×Int)=>dN s.1 s.2.1 s.2.2) (bytesOf (dP (4*i) n).reverse,((n/10000^i%10000:Nat):Int),0)=some (bytesOf (dP (4*(i+1)) n).reverse):=by
 have hlen:∀m x,(bytesOf (dP m x).reverse).length=m:=by intro m x;unfold bytesOf;rw[List.length_map,List.length_reverse,z7]
 have hd:∀j,j<4->n/10000^i%10000/10^j%10=n/10^(4*i+j)%10:=by
  intro j hj
  rw[xx hj,Nat.pow_add,vv,Nat.div_div_eq_div_mul]
 have hX:n/10000^i%10000<10000:=Nat.mod_lt _ (by decide)
 generalize n/10000^i%10000=X at*
 obtain⟨r,hr,rfl⟩:=bI (body:=fun(s:(List UInt8)×Int×Int)=>dN s.1 s.2.1 s.2.2) (bytesOf (dP (4*i) n).reverse,(X:Int),0)
  (fun s=>∃j:Nat,j<=4/\s=(bytesOf (dP (4*i+j) n).reverse,((X/10^j:Nat):Int),(j:Int))) (fun s=>(4-s.2.2).toNat) (fun r=>r=bytesOf (dP (4*(i+1)) n).reverse) ⟨0,by omega,by rw[Nat.pow_zero,Nat.div_one];rfl⟩ (by
  rintro s ⟨j,hj,rfl⟩
  simp only
  by_cases h4:j=4
  ·right
   subst h4
   exact⟨_,tU _ _,rfl⟩
  ·left
   have hlt:X/10^j<10000:=Nat.lt_of_le_of_lt (Nat.div_le_self _ _) hX
   rw[uk _ _ j hlt (by omega) (by rw[hlen];omega)]
   refine⟨_,rfl,⟨j+1,by omega,?_⟩,by simp only;omega⟩
   rw[←Nat.add_assoc,wF,hd j (by omega),Nat.div_div_eq_div_mul,←Nat.pow_succ])
 exact hr
theorem xy(n:Nat)(hn:sm n):Loop (fun(s:(List UInt8)×Int)=>gf (az n) s.1 s.2) (([]:List UInt8),0)=some (bytesOf (dP (4*(az n).length) n).reverse):=by
 have ln:=eZ hn
 obtain⟨r,hr,rfl⟩:=bI (body:=fun(s:(List UInt8)×Int)=>gf (az n) s.1 s.2) (([]:List UInt8),0)
  (fun s=>∃i:Nat,i<=(az n).length/\s=(bytesOf (dP (4*i) n).reverse,(i:Int))) (fun s=>((az n).length-s.2).toNat) (fun r=>r=bytesOf (dP (4*(az n).length) n).reverse) ⟨0,Nat.zero_le _,rfl⟩ (by
  rintro s ⟨i,hi,rfl⟩
  simp only
  unfold gf
  by_cases h:i<(az n).length
  ·left
   rw[if_pos (decide_eq_true (by omega)),jf h,Option.bind_some,xp n i (by omega)]
   simp only[Option.bind_some]
   have e4:IntKind.i64.wrap ((i:Int)+1)=((i+1:Nat):Int):=by rw[i64_in (by omega)];omega
   rw[e4]
   exact⟨_,rfl,⟨i+1,h,rfl⟩,by simp only;omega⟩
  ·right
   rw[if_neg (by simp;omega)]
   exact⟨_,rfl,by rw[show i=(az n).length from by omega]⟩)
 exact hr
theorem Ac(k:Nat)(c:UInt8)(t:List UInt8)(hc:c≠48):Loop (fun(s:(List UInt8))=>gh s) (List.replicate k 48++c::t)=some (c::t):=by
 obtain⟨r,hr,rfl⟩:=bI (body:=fun(s:(List UInt8))=>gh s) (List.replicate k 48++c::t) (fun s=>∃k,s=List.replicate k 48++c::t) (fun s=>s.length) (fun r=>r=c::t) ⟨k,rfl⟩ (by
  rintro s ⟨k,rfl⟩
  unfold gh
  cases k with
  |zero=>
   right
   have h1:ix (List.replicate 0 48++c::t) 0=some c:=rfl
   have h2:¬((c.toNat:Int)==48)=true:=by
    rw[beq_iff_eq]
    intro h
    apply hc
    apply UInt8.toNat_inj.1
    rw[show(48:UInt8).toNat=48 from rfl];omega
   rw[h1,Option.bind_some,if_neg h2]
   exact⟨_,rfl,rfl⟩
  |succ k=>
   left
   have h1:ix (List.replicate (k+1) 48++c::t) 0=some 48:=rfl
   rw[h1,Option.bind_some,if_pos (by decide)]
   refine⟨_,bY ⟨by omega,?_⟩ rfl,⟨k,rfl⟩,?_⟩
   ·simp only[List.replicate_succ,List.cons_append,List.length_cons];omega
   ·simp only[List.replicate_succ,List.cons_append,List.length_cons,show(1:Int).toNat=1 from rfl,List.drop_succ_cons,List.drop_zero];omega)
 exact hr
theorem y_(k:Nat):bytesOf (List.replicate k 48)=List.replicate k 48:=by
 unfold bytesOf;rw[List.map_replicate];rfl
theorem vc(neg:Bool)(n:Nat)(hn:sm n)(h0:n=0->neg=false):jX neg (az n)=some ((if neg then [45]else [])++gB n):=by
 have ln:=eZ hn
 unfold jX
 rw[zh]
 by_cases hz:n=0
 ·subst hz
  rw[h0 rfl];rfl
 ·rw[if_neg (by simpa using hz),xy n hn]
  simp only[Option.bind_some]
  obtain⟨k,hk⟩:=DR (4*(az n).length) n (by rw[vv];exact jS n)
  obtain⟨d,l,e,hd1,hd2⟩:=xS n hz
  have hdec:gB n=UInt8.ofNat (48+d)::bytesOf l.reverse:=by
   unfold gB
   rw[if_neg hz,e,List.reverse_append]
   simp only[List.reverse_cons,List.reverse_nil,List.nil_append,List.singleton_append,bytesOf,List.map_cons,Int.toNat_natCast]
  have hall:bytesOf (dP (4*(az n).length) n).reverse=List.replicate k 48++gB n:=by
   rw[hk,List.reverse_append,List.reverse_replicate,rD,y_]
   unfold gB;rw[if_neg hz]
  have hne:UInt8.ofNat (48+d)≠48:=by
   intro h
   have h1:=congrArg UInt8.toNat h
   rw[UInt8.toNat_ofNat',show(48:UInt8).toNat=48 from rfl]at h1
   omega
  rw[hall,hdec,Ac k _ _ hne,Option.bind_some,←hdec]
  have hl:(gB n).length<=4398046511105:=mn hn
  cases neg
  ·rw[if_neg (by decide),if_neg (by decide)];rfl
  ·rw[if_pos rfl,if_pos rfl];exact bY (by simp only[List.length_cons,List.length_nil];omega) rfl
theorem zg:∀(s:List UInt8),sw s->jI s<10^s.length:=by
 intro s
 have key:∀(n:Nat) (l:List UInt8),l.length=n->sw l->jI l<10^n:=by
  intro n
  induction n with
  |zero=>intro l hl _;rw[List.length_eq_zero_iff.1 hl];simp[jI]
  |succ n ih=>
   intro l hl hd
   have hne:l≠[]:=by intro h;rw[h]at hl;simp at hl
   obtain⟨m,b,rfl⟩:∃m b,l=m++[b]:=⟨l.dropLast,l.getLast hne,(List.dropLast_concat_getLast hne).symm⟩
   have hm:m.length=n:=by simpa using hl
   have h1:=ih m hm (fun c hc=>hd c (by simp[hc]))
   have h2:=hd b (by simp)
   rw[m7,Nat.pow_succ];omega
 exact key s.length s rfl
theorem CD{s:List UInt8}(hd:sw s)(hl:s.length<=1000000000000):bA (jI s)<=4*s.length:=by
 have:=zg s hd
 refine fY.2 (Nat.lt_of_lt_of_le this ?_)
 rw[Nat.pow_mul];exact Nat.pow_le_pow_left (by decide) _
end Go.Am
namespace Go.Am
open Go.RowKit
set_option maxRecDepth 100000
noncomputable section
def dF(a1:Bool)(a2:List Int)(a3:Bool)(a4:List Int):Option (Bool×(List Int)):=(if((a4.length:Int)==0)=true then(eY 1).bind fun(v6,v7)=>some (v6,v7)else some (a3,a4))
theorem fE{a1:Bool}{a2:List Int}{a3:Bool}{a4:List Int}{r9:Bool}{r10:List Int}(h:dF a1 a2 a3 a4=some (r9,r10)):aS PP 173 [] [D.agg ([D.bool a1,ag (ak.int .i64) a2,D.bool a3,ag (ak.int .i64) a4])] [] (D.agg ([D.bool r9,ag (ak.int .i64) r10])):=by
 unfold dF at h
 refine .of Go.Proofs.Tryz.func173 rfl (by kernel_rfl) rfl rfl rfl rfl rfl rfl (fun A w0 L b=>?_)
 show Ok PP _ [(0,D.agg ([D.bool a1,ag (ak.int .i64) a2,D.bool a3,ag (ak.int .i64) a4]))] [] _ _
 refine .al (.ie rfl rfl<|.gd ([D.bool false,D.nil]) bQ ⟨.refl _,.refl _,trivial⟩ rfl<|.nil) rfl ?_
 refine .sq ?_
 refine .al (.fa rfl kY<|.fa rfl aB<|.bg (ag (ak.int .i64) a4) rfl rfl b6 rfl<|.ep rfl ba<|.cm rfl rfl rfl<|.nil) rfl ?_
 by_cases c5:((a4.length:Int)==0)=true
 ·replace h:=aa c5 h
  refine .cj rfl c5 ?_
  obtain⟨⟨v6,v7⟩,e8,h⟩:=bind_some h
  refine .al (.ah (j6 e8) ⟨rfl,trivial⟩ trivial trivial<|.cH ([D.bool v6,ag (ak.int .i64) v7]) rfl rfl rfl ax rfl rfl rfl<|.nil) rfl ?_
  cases h
  refine .aH (fun _ _ hb=>hb) rfl (.cons (.agg rfl rfl ax rfl) .nil) (.refl _) trivial trivial
 ·replace h:=ab c5 h
  refine .ck rfl c5 ?_
  refine .skip (Ok.on ?_)
  refine .al (.fa rfl kY<|.b_ ([D.bool a3,ag (ak.int .i64) a4]) rfl rfl ax rfl rfl<|.cH ([D.bool a3,ag (ak.int .i64) a4]) rfl rfl rfl ax rfl rfl rfl<|.nil) rfl ?_
  cases h
  refine .aH (fun _ _ hb=>hb) rfl (.cons (.agg rfl rfl ax rfl) .nil) (.refl _) trivial trivial
def gL(a1:Bool)(a2:List Int)(a3:Bool)(a4:List Int):Option ((Bool×(List Int))×(Bool×(List Int))):=((if a3=true then(j1 a1 a2).bind fun(v8,v9)=>(j1 a3 a4).bind fun(v11,v12)=>some ((v8,v9,v11,v12))else some ((a1,a2,a3,a4)))).bind fun(v14,v15,v16,v17)=>(my v14 v15 v16 v17).bind fun(v18,v19)=>((if((v19.length:Int)==1)=true then(ix v19 0).bind fun v24=>(if(v24==1)=true then some (Ex.ret ((v14,v15),(v16,v17)))else some (Ex.da ()))else some (Ex.da ()))).bind fun o21=>(match o21 with|Ex.da ()=>(kg v15 v19).bind fun(v27,v28)=>(kg v17 v19).bind fun(v30,v31)=>(dJ v14 v27).bind fun(v33,v34)=>(dJ false v30).bind fun(v36,v37)=>some ((v33,v34),(v36,v37))|Ex.ret ((r39,r40),(r41,r42))=>some ((r39,r40),(r41,r42)))
theorem qk{a1:Bool}{a2:List Int}{a3:Bool}{a4:List Int}{r43:Bool}{r44:List Int}{r45:Bool}{r46:List Int}(h:gL a1 a2 a3 a4=some ((r43,r44),(r45,r46))):aS PP 161 [] [D.agg ([D.bool a1,ag (ak.int .i64) a2]),D.agg ([D.bool a3,ag (ak.int .i64) a4])] [] (D.agg ([D.bool r43,ag (ak.int .i64) r44,D.bool r45,ag (ak.int .i64) r46])):=by
 unfold gL at h
 refine .of Go.Proofs.Tryz.func161 rfl (by kernel_rfl) rfl rfl rfl rfl rfl rfl (fun A w0 L b=>?_)
 show Ok PP _ [(0,D.agg ([D.bool a1,ag (ak.int .i64) a2])),(1,D.agg ([D.bool a3,ag (ak.int .i64) a4]))] [] _ _
 refine .al (.ie rfl rfl<|.ie rfl rfl<|.gd ([D.bool false,D.nil,D.bool false,D.nil]) bC ⟨.refl _,.refl _,.refl _,.refl _,trivial⟩ rfl<|.nil) rfl ?_
 obtain⟨o5,hp6,h⟩:=bind_some h
 refine .cd (fun i=>o5=i) (fun(i:Bool×(List Int)×Bool×(List Int))=>[(2,D.ref 2 0),(3,D.ref 3 0),(4,D.ref 4 0)]) (fun(i:Bool×(List Int)×Bool×(List Int))=>[(2,Hp.box 35 ([D.bool i.1,ag (ak.int .i64) i.2.1])),(3,Hp.box 35 ([D.bool i.2.2.1,ag (ak.int .i64) i.2.2.2])),(4,Hp.box 37 ([D.bool false,D.nil,D.bool false,D.nil]))]) ?_ ?_
 ·have ho1:=h
  clear h
  have h:=hp6
  clear hp6
  refine .al (.fa rfl bu<|.bg (D.bool a3) rfl rfl bH rfl<|.nil) rfl ?_
  by_cases c7:a3=true
  ·replace h:=aa c7 h
   refine .cj rfl c7 ?_
   obtain⟨⟨v8,v9⟩,e10,h⟩:=bind_some h
   obtain⟨⟨v11,v12⟩,e13,h⟩:=bind_some h
   refine .c_ cg (.b_ ([D.bool a1,ag (ak.int .i64) a2]) rfl rfl ax rfl rfl<|.ah (rf e10) ⟨rfl,trivial⟩ trivial trivial<|.b_ ([D.bool a3,ag (ak.int .i64) a4]) rfl rfl ax rfl rfl<|.ah (rf e13) ⟨rfl,trivial⟩ trivial trivial<|.cH ([D.bool v8,ag (ak.int .i64) v9]) rfl rfl rfl ax rfl rfl rfl<|.cH ([D.bool v11,ag (ak.int .i64) v12]) rfl rfl rfl ax rfl rfl rfl<|.nil) rfl (by kernel_rfl) (fun _ _ hs=>⟨(v8,v9,v11,v12),(Option.some.inj h).symm,hs.sub (.of rfl) (.of rfl) rfl rfl⟩)
  ·replace h:=ab c7 h
   refine .ck rfl c7 ?_
   refine .skip (fun _ _ hs=>⟨(a1,a2,a3,a4),(Option.some.inj h).symm,hs.sub (.of rfl) (.of rfl) rfl rfl⟩)
 ·rintro⟨v14,v15,v16,v17⟩ rfl
  try dsimp only
  obtain⟨⟨v18,v19⟩,e20,h⟩:=bind_some h
  refine .al (.b_ ([D.bool v14,ag (ak.int .i64) v15]) rfl rfl ax rfl rfl<|.b_ ([D.bool v16,ag (ak.int .i64) v17]) rfl rfl ax rfl rfl<|.ah (AZ e20) ⟨rfl,rfl,trivial⟩ trivial trivial<|.gd ([D.bool false,D.nil]) bQ ⟨.refl _,.refl _,trivial⟩ rfl<|.cH ([D.bool v18,ag (ak.int .i64) v19]) rfl rfl rfl ax rfl rfl rfl<|.nil) rfl ?_
  obtain⟨o21,hp22,h⟩:=bind_some h
  refine .cd (fun i=>o21=Ex.da i) (fun(i:Unit)=>[(2,D.ref 2 0),(3,D.ref 3 0),(4,D.ref 4 0),(5,D.ref 5 0)]) (fun(i:Unit)=>[(2,Hp.box 35 ([D.bool v14,ag (ak.int .i64) v15])),(3,Hp.box 35 ([D.bool v16,ag (ak.int .i64) v17])),(4,Hp.box 37 ([D.bool false,D.nil,D.bool false,D.nil])),(5,Hp.box 35 ([D.bool v18,ag (ak.int .i64) v19]))]) ?_ ?_
  ·have ho1:=h
   clear h
   have h:=hp22
   clear hp22
   by_cases c23:((v19.length:Int)==1)=true
   ·replace h:=aa c23 h
    obtain⟨v24,e25,h⟩:=bind_some h
    refine .al (.fa rfl aB<|.bg (ag (ak.int .i64) v19) rfl rfl b6 rfl<|.ep rfl ba<|.cm rfl rfl rfl<|.mv rfl<|.aV rfl rfl rfl c23<|.fa rfl aB<|.aV rfl rfl rfl c23<|.bg (ag (ak.int .i64) v19) rfl rfl b6 rfl<|.aV rfl rfl rfl c23<|.ko rfl rfl cy (af e25).1 (af e25).2<|.aV rfl rfl rfl c23<|.gC rfl cB<|.aV rfl rfl rfl c23<|.cm rfl rfl rfl<|.bn rfl c23 rfl<|.nil) rfl ?_
    by_cases c26:(v24==1)=true
    ·replace h:=aa c26 h
     refine .cj rfl c26 ?_
     refine .al (.b_ ([D.bool v14,ag (ak.int .i64) v15]) rfl rfl ax rfl rfl<|.b_ ([D.bool v16,ag (ak.int .i64) v17]) rfl rfl ax rfl rfl<|.nW ([D.bool v14,ag (ak.int .i64) v15,D.bool v16,ag (ak.int .i64) v17]) [(0,_,D.agg ([D.bool v14,ag (ak.int .i64) v15]),[D.bool v14,ag (ak.int .i64) v15]),(2,_,D.agg ([D.bool v16,ag (ak.int .i64) v17]),[D.bool v16,ag (ak.int .i64) v17])] bC gP ⟨rfl,rfl,.agg _,rfl,rfl,rfl,.agg _,rfl,trivial⟩ ⟨rfl,rfl,trivial⟩ ⟨.refl _,.refl _,.refl _,.refl _,trivial⟩<|.cH ([D.bool v14,ag (ak.int .i64) v15,D.bool v16,ag (ak.int .i64) v17]) rfl rfl rfl ao rfl rfl rfl<|.nil) rfl ?_
     cases h
     have h:=ho1
     clear ho1
     cases h
     refine .aH (fun _ _ hb=>hb) rfl (.cons (.agg rfl rfl ao rfl) .nil) (.refl _) trivial trivial
    ·replace h:=ab c26 h
     refine .ck rfl c26 ?_
     refine .skip (fun _ _ hs=>⟨(),(Option.some.inj h).symm,hs.sub (.of rfl) (.of rfl) rfl rfl⟩)
   ·replace h:=ab c23 h
    refine .al (.fa rfl aB<|.bg (ag (ak.int .i64) v19) rfl rfl b6 rfl<|.ep rfl ba<|.cm rfl rfl rfl<|.mv rfl<|.aT rfl rfl rfl c23<|.aT rfl rfl rfl c23<|.aT rfl rfl rfl c23<|.aT rfl rfl rfl c23<|.aT rfl rfl rfl c23<|.bm rfl c23 rfl<|.nil) rfl ?_
    refine .ck rfl (by decide) ?_
    refine .skip (fun _ _ hs=>⟨(),(Option.some.inj h).symm,hs.sub (.of rfl) (.of rfl) rfl rfl⟩)
  ·rintro⟨⟩ rfl
   try dsimp only
   obtain⟨⟨v27,v28⟩,e29,h⟩:=bind_some h
   refine .al (.fa rfl aB<|.bg (ag (ak.int .i64) v15) rfl rfl b6 rfl<|.fa rfl aB<|.bg (ag (ak.int .i64) v19) rfl rfl b6 rfl<|.ah (rz e29) ⟨rfl,rfl,trivial⟩ trivial trivial<|.mv rfl<|.ext rfl rfl<|.ext rfl rfl<|.aq rfl<|.aq rfl<|.nil) rfl ?_
   obtain⟨⟨v30,v31⟩,e32,h⟩:=bind_some h
   refine .al (.fa rfl aB<|.bg (ag (ak.int .i64) v17) rfl rfl b6 rfl<|.fa rfl aB<|.bg (ag (ak.int .i64) v19) rfl rfl b6 rfl<|.ah (rz e32) ⟨rfl,rfl,trivial⟩ trivial trivial<|.mv rfl<|.ext rfl rfl<|.ext rfl rfl<|.aq rfl<|.aq rfl<|.nil) rfl ?_
   obtain⟨⟨v33,v34⟩,e35,h⟩:=bind_some h
   obtain⟨⟨v36,v37⟩,e38,h⟩:=bind_some h
   refine .al (.fa rfl bu<|.bg (D.bool v14) rfl rfl bH rfl<|.mv rfl<|.ah (gZ e35) ⟨rfl,rfl,trivial⟩ trivial trivial<|.mv rfl<|.ah (gZ e38) ⟨rfl,rfl,trivial⟩ trivial trivial<|.nW ([D.bool v33,ag (ak.int .i64) v34,D.bool v36,ag (ak.int .i64) v37]) [(0,_,D.agg ([D.bool v33,ag (ak.int .i64) v34]),[D.bool v33,ag (ak.int .i64) v34]),(2,_,D.agg ([D.bool v36,ag (ak.int .i64) v37]),[D.bool v36,ag (ak.int .i64) v37])] bC gP ⟨rfl,rfl,.agg _,rfl,rfl,rfl,.agg _,rfl,trivial⟩ ⟨rfl,rfl,trivial⟩ ⟨.refl _,.refl _,.refl _,.refl _,trivial⟩<|.cH ([D.bool v33,ag (ak.int .i64) v34,D.bool v36,ag (ak.int .i64) v37]) rfl rfl rfl ao rfl rfl rfl<|.nil) rfl ?_
   cases h
   refine .aH (fun _ _ hb=>hb) rfl (.cons (.agg rfl rfl ao rfl) .nil) (.refl _) trivial trivial
def qg(a1:Int):Option ((Bool×(List Int))×(Bool×(List Int))):=(eY a1).bind fun(v2,v3)=>(eY 1).bind fun(v5,v6)=>some ((v2,v3),(v5,v6))
theorem Cr{a1:Int}{r8:Bool}{r9:List Int}{r10:Bool}{r11:List Int}(h:qg a1=some ((r8,r9),(r10,r11))):aS PP 41 [] [D.int .i64 a1] [] (D.agg ([D.bool r8,ag (ak.int .i64) r9,D.bool r10,ag (ak.int .i64) r11])):=by
 unfold qg at h
 refine .of Go.Proofs.Tryz.func41 rfl (by kernel_rfl) rfl rfl rfl rfl rfl rfl (fun A w0 L b=>?_)
 show Ok PP _ [(0,D.int .i64 a1)] [] _ _
 refine .al (.gd ([D.bool false,D.nil,D.bool false,D.nil]) bC ⟨.refl _,.refl _,.refl _,.refl _,trivial⟩ rfl<|.nil) rfl ?_
 obtain⟨⟨v2,v3⟩,e4,h⟩:=bind_some h
 obtain⟨⟨v5,v6⟩,e7,h⟩:=bind_some h
 refine .al (.mv rfl<|.ah (j6 e4) ⟨rfl,trivial⟩ trivial trivial<|.ah (j6 e7) ⟨rfl,trivial⟩ trivial trivial<|.nW ([D.bool v2,ag (ak.int .i64) v3,D.bool v5,ag (ak.int .i64) v6]) [(0,_,D.agg ([D.bool v2,ag (ak.int .i64) v3]),[D.bool v2,ag (ak.int .i64) v3]),(2,_,D.agg ([D.bool v5,ag (ak.int .i64) v6]),[D.bool v5,ag (ak.int .i64) v6])] bC gP ⟨rfl,rfl,.agg _,rfl,rfl,rfl,.agg _,rfl,trivial⟩ ⟨rfl,rfl,trivial⟩ ⟨.refl _,.refl _,.refl _,.refl _,trivial⟩<|.cH ([D.bool v2,ag (ak.int .i64) v3,D.bool v5,ag (ak.int .i64) v6]) rfl rfl rfl ao rfl rfl rfl<|.nil) rfl ?_
 cases h
 refine .aH (fun _ _ hb=>hb) rfl (.cons (.agg rfl rfl ao rfl) .nil) (.refl _) trivial trivial
def ux(a1:Int)(a2:Int):Option ((Bool×(List Int))×(Bool×(List Int))):=(eY a1).bind fun(v3,v4)=>(eY a2).bind fun(v6,v7)=>(gL v3 v4 v6 v7).bind fun((v9,v10),(v11,v12))=>some ((v9,v10),(v11,v12))
theorem D4{a1:Int}{a2:Int}{r14:Bool}{r15:List Int}{r16:Bool}{r17:List Int}(h:ux a1 a2=some ((r14,r15),(r16,r17))):aS PP 37 [] [D.int .i64 a1,D.int .i64 a2] [] (D.agg ([D.bool r14,ag (ak.int .i64) r15,D.bool r16,ag (ak.int .i64) r17])):=by
 unfold ux at h
 refine .of Go.Proofs.Tryz.func37 rfl (by kernel_rfl) rfl rfl rfl rfl rfl rfl (fun A w0 L b=>?_)
 show Ok PP _ [(0,D.int .i64 a1),(1,D.int .i64 a2)] [] _ _
 refine .al (.gd ([D.bool false,D.nil,D.bool false,D.nil]) bC ⟨.refl _,.refl _,.refl _,.refl _,trivial⟩ rfl<|.nil) rfl ?_
 obtain⟨⟨v3,v4⟩,e5,h⟩:=bind_some h
 obtain⟨⟨v6,v7⟩,e8,h⟩:=bind_some h
 obtain⟨⟨⟨v9,v10⟩,⟨v11,v12⟩⟩,e13,h⟩:=bind_some h
 refine .al (.mv rfl<|.ah (j6 e5) ⟨rfl,trivial⟩ trivial trivial<|.mv rfl<|.ah (j6 e8) ⟨rfl,trivial⟩ trivial trivial<|.ah (qk e13) ⟨rfl,rfl,trivial⟩ trivial trivial<|.cH ([D.bool v9,ag (ak.int .i64) v10,D.bool v11,ag (ak.int .i64) v12]) rfl rfl rfl ao rfl rfl rfl<|.nil) rfl ?_
 cases h
 refine .aH (fun _ _ hb=>hb) rfl (.cons (.agg rfl rfl ao rfl) .nil) (.refl _) trivial trivial
def ot(a1:Bool)(a2:List Int)(a3:Bool)(a4:List Int)(a5:Bool)(a6:List Int)(a7:Bool)(a8:List Int):Option ((Bool×(List Int))×(Bool×(List Int))):=(dF a5 a6 a7 a8).bind fun(v9,v10)=>(e_ a1 a2 v9 v10).bind fun(v12,v13)=>(dF a1 a2 a3 a4).bind fun(v15,v16)=>(e_ a5 a6 v15 v16).bind fun(v18,v19)=>(ma v12 v13 v18 v19).bind fun(v21,v22)=>(dF a1 a2 a3 a4).bind fun(v24,v25)=>(dF a5 a6 a7 a8).bind fun(v27,v28)=>(e_ v24 v25 v27 v28).bind fun(v30,v31)=>(gL v21 v22 v30 v31).bind fun((v33,v34),(v35,v36))=>some ((v33,v34),(v35,v36))
theorem Dp{a1:Bool}{a2:List Int}{a3:Bool}{a4:List Int}{a5:Bool}{a6:List Int}{a7:Bool}{a8:List Int}{r38:Bool}{r39:List Int}{r40:Bool}{r41:List Int}(h:ot a1 a2 a3 a4 a5 a6 a7 a8=some ((r38,r39),(r40,r41))):aS PP 43 [] [D.agg ([D.bool a1,ag (ak.int .i64) a2,D.bool a3,ag (ak.int .i64) a4]),D.agg ([D.bool a5,ag (ak.int .i64) a6,D.bool a7,ag (ak.int .i64) a8])] [] (D.agg ([D.bool r38,ag (ak.int .i64) r39,D.bool r40,ag (ak.int .i64) r41])):=by
 unfold ot at h
 refine .of Go.Proofs.Tryz.func43 rfl (by kernel_rfl) rfl rfl rfl rfl rfl rfl (fun A w0 L b=>?_)
 show Ok PP _ [(0,D.agg ([D.bool a1,ag (ak.int .i64) a2,D.bool a3,ag (ak.int .i64) a4])),(1,D.agg ([D.bool a5,ag (ak.int .i64) a6,D.bool a7,ag (ak.int .i64) a8]))] [] _ _
 refine .al (.ie rfl rfl<|.ie rfl rfl<|.gd ([D.bool false,D.nil,D.bool false,D.nil]) bC ⟨.refl _,.refl _,.refl _,.refl _,trivial⟩ rfl<|.nil) rfl ?_
 obtain⟨⟨v9,v10⟩,e11,h⟩:=bind_some h
 obtain⟨⟨v12,v13⟩,e14,h⟩:=bind_some h
 obtain⟨⟨v15,v16⟩,e17,h⟩:=bind_some h
 obtain⟨⟨v18,v19⟩,e20,h⟩:=bind_some h
 obtain⟨⟨v21,v22⟩,e23,h⟩:=bind_some h
 obtain⟨⟨v24,v25⟩,e26,h⟩:=bind_some h
 obtain⟨⟨v27,v28⟩,e29,h⟩:=bind_some h
 obtain⟨⟨v30,v31⟩,e32,h⟩:=bind_some h
 obtain⟨⟨⟨v33,v34⟩,⟨v35,v36⟩⟩,e37,h⟩:=bind_some h
 refine .dc cg (.fa rfl cE<|.b_ ([D.bool a1,ag (ak.int .i64) a2]) rfl rfl ax rfl rfl<|.b_ ([D.bool a5,ag (ak.int .i64) a6,D.bool a7,ag (ak.int .i64) a8]) rfl rfl ao rfl rfl<|.ah (fE e11) ⟨rfl,trivial⟩ trivial trivial<|.ah (kh e14) ⟨rfl,rfl,trivial⟩ trivial trivial<|.fa rfl cE<|.b_ ([D.bool a5,ag (ak.int .i64) a6]) rfl rfl ax rfl rfl<|.b_ ([D.bool a1,ag (ak.int .i64) a2,D.bool a3,ag (ak.int .i64) a4]) rfl rfl ao rfl rfl<|.ah (fE e17) ⟨rfl,trivial⟩ trivial trivial<|.ah (kh e20) ⟨rfl,rfl,trivial⟩ trivial trivial<|.ah (AR e23) ⟨rfl,rfl,trivial⟩ trivial trivial<|.b_ ([D.bool a1,ag (ak.int .i64) a2,D.bool a3,ag (ak.int .i64) a4]) rfl rfl ao rfl rfl<|.ah (fE e26) ⟨rfl,trivial⟩ trivial trivial<|.b_ ([D.bool a5,ag (ak.int .i64) a6,D.bool a7,ag (ak.int .i64) a8]) rfl rfl ao rfl rfl<|.ah (fE e29) ⟨rfl,trivial⟩ trivial trivial<|.ah (kh e32) ⟨rfl,rfl,trivial⟩ trivial trivial<|.ah (qk e37) ⟨rfl,rfl,trivial⟩ trivial trivial<|.cH ([D.bool v33,ag (ak.int .i64) v34,D.bool v35,ag (ak.int .i64) v36]) rfl rfl rfl ao rfl rfl rfl<|.nil) rfl (by kernel_rfl) ?_
 cases h
 refine .aH (fun _ _ hb=>hb) rfl (.cons (.agg rfl rfl ao rfl) .nil) (.refl _) trivial trivial
def oB(a1:Bool)(a2:List Int)(a3:Bool)(a4:List Int):Option ((Bool×(List Int))×(Bool×(List Int))):=(j1 a1 a2).bind fun(v5,v6)=>(dF a1 a2 a3 a4).bind fun(v8,v9)=>some ((v5,v6),(v8,v9))
theorem yj{a1:Bool}{a2:List Int}{a3:Bool}{a4:List Int}{r11:Bool}{r12:List Int}{r13:Bool}{r14:List Int}(h:oB a1 a2 a3 a4=some ((r11,r12),(r13,r14))):aS PP 49 [] [D.agg ([D.bool a1,ag (ak.int .i64) a2,D.bool a3,ag (ak.int .i64) a4])] [] (D.agg ([D.bool r11,ag (ak.int .i64) r12,D.bool r13,ag (ak.int .i64) r14])):=by
 unfold oB at h
 refine .of Go.Proofs.Tryz.func49 rfl (by kernel_rfl) rfl rfl rfl rfl rfl rfl (fun A w0 L b=>?_)
 show Ok PP _ [(0,D.agg ([D.bool a1,ag (ak.int .i64) a2,D.bool a3,ag (ak.int .i64) a4]))] [] _ _
 refine .al (.ie rfl rfl<|.gd ([D.bool false,D.nil,D.bool false,D.nil]) bC ⟨.refl _,.refl _,.refl _,.refl _,trivial⟩ rfl<|.nil) rfl ?_
 obtain⟨⟨v5,v6⟩,e7,h⟩:=bind_some h
 obtain⟨⟨v8,v9⟩,e10,h⟩:=bind_some h
 refine .dc cg (.fa rfl cE<|.b_ ([D.bool a1,ag (ak.int .i64) a2]) rfl rfl ax rfl rfl<|.ah (rf e7) ⟨rfl,trivial⟩ trivial trivial<|.b_ ([D.bool a1,ag (ak.int .i64) a2,D.bool a3,ag (ak.int .i64) a4]) rfl rfl ao rfl rfl<|.ah (fE e10) ⟨rfl,trivial⟩ trivial trivial<|.nW ([D.bool v5,ag (ak.int .i64) v6,D.bool v8,ag (ak.int .i64) v9]) [(0,_,D.agg ([D.bool v5,ag (ak.int .i64) v6]),[D.bool v5,ag (ak.int .i64) v6]),(2,_,D.agg ([D.bool v8,ag (ak.int .i64) v9]),[D.bool v8,ag (ak.int .i64) v9])] bC gP ⟨rfl,rfl,.agg _,rfl,rfl,rfl,.agg _,rfl,trivial⟩ ⟨rfl,rfl,trivial⟩ ⟨.refl _,.refl _,.refl _,.refl _,trivial⟩<|.cH ([D.bool v5,ag (ak.int .i64) v6,D.bool v8,ag (ak.int .i64) v9]) rfl rfl rfl ao rfl rfl rfl<|.nil) rfl (by kernel_rfl) ?_
 cases h
 refine .aH (fun _ _ hb=>hb) rfl (.cons (.agg rfl rfl ao rfl) .nil) (.refl _) trivial trivial
def qG(a1:Bool)(a2:List Int)(a3:Bool)(a4:List Int)(a5:Bool)(a6:List Int)(a7:Bool)(a8:List Int):Option ((Bool×(List Int))×(Bool×(List Int))):=(oB a5 a6 a7 a8).bind fun((v9,v10),(v11,v12))=>(ot a1 a2 a3 a4 v9 v10 v11 v12).bind fun((v14,v15),(v16,v17))=>some ((v14,v15),(v16,v17))
theorem Cy{a1:Bool}{a2:List Int}{a3:Bool}{a4:List Int}{a5:Bool}{a6:List Int}{a7:Bool}{a8:List Int}{r19:Bool}{r20:List Int}{r21:Bool}{r22:List Int}(h:qG a1 a2 a3 a4 a5 a6 a7 a8=some ((r19,r20),(r21,r22))):aS PP 45 [] [D.agg ([D.bool a1,ag (ak.int .i64) a2,D.bool a3,ag (ak.int .i64) a4]),D.agg ([D.bool a5,ag (ak.int .i64) a6,D.bool a7,ag (ak.int .i64) a8])] [] (D.agg ([D.bool r19,ag (ak.int .i64) r20,D.bool r21,ag (ak.int .i64) r22])):=by
 unfold qG at h
 refine .of Go.Proofs.Tryz.func45 rfl (by kernel_rfl) rfl rfl rfl rfl rfl rfl (fun A w0 L b=>?_)
 show Ok PP _ [(0,D.agg ([D.bool a1,ag (ak.int .i64) a2,D.bool a3,ag (ak.int .i64) a4])),(1,D.agg ([D.bool a5,ag (ak.int .i64) a6,D.bool a7,ag (ak.int .i64) a8]))] [] _ _
 refine .al (.ie rfl rfl<|.ie rfl rfl<|.gd ([D.bool false,D.nil,D.bool false,D.nil]) bC ⟨.refl _,.refl _,.refl _,.refl _,trivial⟩ rfl<|.nil) rfl ?_
 obtain⟨⟨⟨v9,v10⟩,⟨v11,v12⟩⟩,e13,h⟩:=bind_some h
 obtain⟨⟨⟨v14,v15⟩,⟨v16,v17⟩⟩,e18,h⟩:=bind_some h
 refine .dc cg (.b_ ([D.bool a1,ag (ak.int .i64) a2,D.bool a3,ag (ak.int .i64) a4]) rfl rfl ao rfl rfl<|.b_ ([D.bool a5,ag (ak.int .i64) a6,D.bool a7,ag (ak.int .i64) a8]) rfl rfl ao rfl rfl<|.ah (yj e13) ⟨rfl,trivial⟩ trivial trivial<|.ah (Dp e18) ⟨rfl,rfl,trivial⟩ trivial trivial<|.cH ([D.bool v14,ag (ak.int .i64) v15,D.bool v16,ag (ak.int .i64) v17]) rfl rfl rfl ao rfl rfl rfl<|.nil) rfl (by kernel_rfl) ?_
 cases h
 refine .aH (fun _ _ hb=>hb) rfl (.cons (.agg rfl rfl ao rfl) .nil) (.refl _) trivial trivial
def qu(a1:Bool)(a2:List Int)(a3:Bool)(a4:List Int)(a5:Bool)(a6:List Int)(a7:Bool)(a8:List Int):Option ((Bool×(List Int))×(Bool×(List Int))):=(e_ a1 a2 a5 a6).bind fun(v9,v10)=>(dF a1 a2 a3 a4).bind fun(v12,v13)=>(dF a5 a6 a7 a8).bind fun(v15,v16)=>(e_ v12 v13 v15 v16).bind fun(v18,v19)=>(gL v9 v10 v18 v19).bind fun((v21,v22),(v23,v24))=>some ((v21,v22),(v23,v24))
theorem Ck{a1:Bool}{a2:List Int}{a3:Bool}{a4:List Int}{a5:Bool}{a6:List Int}{a7:Bool}{a8:List Int}{r26:Bool}{r27:List Int}{r28:Bool}{r29:List Int}(h:qu a1 a2 a3 a4 a5 a6 a7 a8=some ((r26,r27),(r28,r29))):aS PP 47 [] [D.agg ([D.bool a1,ag (ak.int .i64) a2,D.bool a3,ag (ak.int .i64) a4]),D.agg ([D.bool a5,ag (ak.int .i64) a6,D.bool a7,ag (ak.int .i64) a8])] [] (D.agg ([D.bool r26,ag (ak.int .i64) r27,D.bool r28,ag (ak.int .i64) r29])):=by
 unfold qu at h
 refine .of Go.Proofs.Tryz.func47 rfl (by kernel_rfl) rfl rfl rfl rfl rfl rfl (fun A w0 L b=>?_)
 show Ok PP _ [(0,D.agg ([D.bool a1,ag (ak.int .i64) a2,D.bool a3,ag (ak.int .i64) a4])),(1,D.agg ([D.bool a5,ag (ak.int .i64) a6,D.bool a7,ag (ak.int .i64) a8]))] [] _ _
 refine .al (.ie rfl rfl<|.ie rfl rfl<|.gd ([D.bool false,D.nil,D.bool false,D.nil]) bC ⟨.refl _,.refl _,.refl _,.refl _,trivial⟩ rfl<|.nil) rfl ?_
 obtain⟨⟨v9,v10⟩,e11,h⟩:=bind_some h
 obtain⟨⟨v12,v13⟩,e14,h⟩:=bind_some h
 obtain⟨⟨v15,v16⟩,e17,h⟩:=bind_some h
 obtain⟨⟨v18,v19⟩,e20,h⟩:=bind_some h
 obtain⟨⟨⟨v21,v22⟩,⟨v23,v24⟩⟩,e25,h⟩:=bind_some h
 refine .dc cg (.fa rfl cE<|.b_ ([D.bool a1,ag (ak.int .i64) a2]) rfl rfl ax rfl rfl<|.fa rfl cE<|.b_ ([D.bool a5,ag (ak.int .i64) a6]) rfl rfl ax rfl rfl<|.ah (kh e11) ⟨rfl,rfl,trivial⟩ trivial trivial<|.b_ ([D.bool a1,ag (ak.int .i64) a2,D.bool a3,ag (ak.int .i64) a4]) rfl rfl ao rfl rfl<|.ah (fE e14) ⟨rfl,trivial⟩ trivial trivial<|.b_ ([D.bool a5,ag (ak.int .i64) a6,D.bool a7,ag (ak.int .i64) a8]) rfl rfl ao rfl rfl<|.ah (fE e17) ⟨rfl,trivial⟩ trivial trivial<|.ah (kh e20) ⟨rfl,rfl,trivial⟩ trivial trivial<|.ah (qk e25) ⟨rfl,rfl,trivial⟩ trivial trivial<|.cH ([D.bool v21,ag (ak.int .i64) v22,D.bool v23,ag (ak.int .i64) v24]) rfl rfl rfl ao rfl rfl rfl<|.nil) rfl (by kernel_rfl) ?_
 cases h
 refine .aH (fun _ _ hb=>hb) rfl (.cons (.agg rfl rfl ao rfl) .nil) (.refl _) trivial trivial
def qz(a1:Bool)(a2:List Int)(a3:Bool)(a4:List Int)(a5:Bool)(a6:List Int)(a7:Bool)(a8:List Int):Option ((Bool×(List Int))×(Bool×(List Int))):=(dF a5 a6 a7 a8).bind fun(v9,v10)=>(e_ a1 a2 v9 v10).bind fun(v12,v13)=>(dF a1 a2 a3 a4).bind fun(v15,v16)=>(e_ v15 v16 a5 a6).bind fun(v18,v19)=>(gL v12 v13 v18 v19).bind fun((v21,v22),(v23,v24))=>some ((v21,v22),(v23,v24))
theorem CZ{a1:Bool}{a2:List Int}{a3:Bool}{a4:List Int}{a5:Bool}{a6:List Int}{a7:Bool}{a8:List Int}{r26:Bool}{r27:List Int}{r28:Bool}{r29:List Int}(h:qz a1 a2 a3 a4 a5 a6 a7 a8=some ((r26,r27),(r28,r29))):aS PP 39 [] [D.agg ([D.bool a1,ag (ak.int .i64) a2,D.bool a3,ag (ak.int .i64) a4]),D.agg ([D.bool a5,ag (ak.int .i64) a6,D.bool a7,ag (ak.int .i64) a8])] [] (D.agg ([D.bool r26,ag (ak.int .i64) r27,D.bool r28,ag (ak.int .i64) r29])):=by
 unfold qz at h
 refine .of Go.Proofs.Tryz.func39 rfl (by kernel_rfl) rfl rfl rfl rfl rfl rfl (fun A w0 L b=>?_)
 show Ok PP _ [(0,D.agg ([D.bool a1,ag (ak.int .i64) a2,D.bool a3,ag (ak.int .i64) a4])),(1,D.agg ([D.bool a5,ag (ak.int .i64) a6,D.bool a7,ag (ak.int .i64) a8]))] [] _ _
 refine .al (.ie rfl rfl<|.ie rfl rfl<|.gd ([D.bool false,D.nil,D.bool false,D.nil]) bC ⟨.refl _,.refl _,.refl _,.refl _,trivial⟩ rfl<|.nil) rfl ?_
 obtain⟨⟨v9,v10⟩,e11,h⟩:=bind_some h
 obtain⟨⟨v12,v13⟩,e14,h⟩:=bind_some h
 obtain⟨⟨v15,v16⟩,e17,h⟩:=bind_some h
 obtain⟨⟨v18,v19⟩,e20,h⟩:=bind_some h
 obtain⟨⟨⟨v21,v22⟩,⟨v23,v24⟩⟩,e25,h⟩:=bind_some h
 refine .dc cg (.fa rfl cE<|.b_ ([D.bool a1,ag (ak.int .i64) a2]) rfl rfl ax rfl rfl<|.b_ ([D.bool a5,ag (ak.int .i64) a6,D.bool a7,ag (ak.int .i64) a8]) rfl rfl ao rfl rfl<|.ah (fE e11) ⟨rfl,trivial⟩ trivial trivial<|.ah (kh e14) ⟨rfl,rfl,trivial⟩ trivial trivial<|.b_ ([D.bool a1,ag (ak.int .i64) a2,D.bool a3,ag (ak.int .i64) a4]) rfl rfl ao rfl rfl<|.ah (fE e17) ⟨rfl,trivial⟩ trivial trivial<|.fa rfl cE<|.b_ ([D.bool a5,ag (ak.int .i64) a6]) rfl rfl ax rfl rfl<|.ah (kh e20) ⟨rfl,rfl,trivial⟩ trivial trivial<|.ah (qk e25) ⟨rfl,rfl,trivial⟩ trivial trivial<|.cH ([D.bool v21,ag (ak.int .i64) v22,D.bool v23,ag (ak.int .i64) v24]) rfl rfl rfl ao rfl rfl rfl<|.nil) rfl (by kernel_rfl) ?_
 cases h
 refine .aH (fun _ _ hb=>hb) rfl (.cons (.agg rfl rfl ao rfl) .nil) (.refl _) trivial trivial
def oQ(a1:Bool)(a2:List Int)(a3:Bool)(a4:List Int):Option Int:=(oC a1 a2 false ([])).bind fun v5=>some v5
theorem AV{a1:Bool}{a2:List Int}{a3:Bool}{a4:List Int}{r7:Int}(h:oQ a1 a2 a3 a4=some r7):aS PP 31 [] [D.agg ([D.bool a1,ag (ak.int .i64) a2,D.bool a3,ag (ak.int .i64) a4])] [] (D.int .i64 r7):=by
 unfold oQ at h
 refine .of Go.Proofs.Tryz.func31 rfl (by kernel_rfl) rfl rfl rfl rfl rfl rfl (fun A w0 L b=>?_)
 show Ok PP _ [(0,D.agg ([D.bool a1,ag (ak.int .i64) a2,D.bool a3,ag (ak.int .i64) a4]))] [] _ _
 refine .al (.ie rfl rfl<|.aq rfl<|.nil) rfl ?_
 obtain⟨v5,e6,h⟩:=bind_some h
 refine .al (.fa rfl cE<|.b_ ([D.bool a1,ag (ak.int .i64) a2]) rfl rfl ax rfl rfl<|.nW ([D.bool false,D.nil]) [] bQ eG trivial trivial ⟨.refl _,.refl _,trivial⟩<|.FT [D.agg ([D.bool a1,ag (ak.int .i64) a2]),D.agg ([D.bool false,D.nil])] (Af e6) ⟨rfl,rfl,trivial⟩ ⟨.refl _,.agg ⟨.refl _,.jJ _,trivial⟩,trivial⟩ trivial trivial<|.aq rfl<|.nil) rfl ?_
 cases h
 refine .aH (fun _ _ hb=>hb) rfl (.cons (.tmp rfl) .nil) (.refl _) trivial trivial
def oZ(a1:Bool)(a2:List Int)(a3:Bool)(a4:List Int):Option (List UInt8):=(jX a1 a2).bind fun v5=>(dF a1 a2 a3 a4).bind fun(v7,v8)=>(jX v7 v8).bind fun v10=>(if(v10==([49]:List UInt8))=true then some v5 else bZ (v5.length+([47]:List UInt8).length<=9223372036854775807) (bZ ((v5++([47]:List UInt8)).length+v10.length<=9223372036854775807) (some ((v5++([47]:List UInt8))++v10))))
theorem Bd{a1:Bool}{a2:List Int}{a3:Bool}{a4:List Int}{r15:List UInt8}(h:oZ a1 a2 a3 a4=some r15):aS PP 162 [] [D.agg ([D.bool a1,ag (ak.int .i64) a2,D.bool a3,ag (ak.int .i64) a4])] [] (bU r15):=by
 unfold oZ at h
 refine .of Go.Proofs.Tryz.func162 rfl (by kernel_rfl) rfl rfl rfl rfl rfl rfl (fun A w0 L b=>?_)
 show Ok PP _ [(0,D.agg ([D.bool a1,ag (ak.int .i64) a2,D.bool a3,ag (ak.int .i64) a4]))] [] _ _
 refine .al (.ie rfl rfl<|.aq rfl<|.nil) rfl ?_
 obtain⟨v5,e6,h⟩:=bind_some h
 refine .al (.fa rfl cE<|.b_ ([D.bool a1,ag (ak.int .i64) a2]) rfl rfl ax rfl rfl<|.ah (tw e6) ⟨rfl,trivial⟩ trivial trivial<|.aq rfl<|.nil) rfl ?_
 obtain⟨⟨v7,v8⟩,e9,h⟩:=bind_some h
 obtain⟨v10,e11,h⟩:=bind_some h
 refine .al (.b_ ([D.bool a1,ag (ak.int .i64) a2,D.bool a3,ag (ak.int .i64) a4]) rfl rfl ao rfl rfl<|.ah (fE e9) ⟨rfl,trivial⟩ trivial trivial<|.ah (tw e11) ⟨rfl,trivial⟩ trivial trivial<|.aq rfl<|.nil) rfl ?_
 refine .sq ?_
 refine .al (.mv rfl<|.Ep rfl rfl<|.nil) rfl ?_
 by_cases c12:(v10==([49]:List UInt8))=true
 ·replace h:=aa c12 h
  refine .cj rfl c12 ?_
  refine .al (.mv rfl<|.aq rfl<|.nil) rfl ?_
  cases h
  refine .aH (fun _ _ hb=>hb) rfl (.cons (.tmp rfl) .nil) (.refl _) trivial trivial
 ·replace h:=ab c12 h
  refine .ck rfl c12 ?_
  refine .skip (Ok.on ?_)
  obtain⟨k13,h⟩:=aw h
  obtain⟨k14,h⟩:=aw h
  refine .al (.mv rfl<|.vF rfl rfl k13<|.mv rfl<|.vF rfl rfl k14<|.aq rfl<|.nil) rfl ?_
  cases h
  refine .aH (fun _ _ hb=>hb) rfl (.cons (.tmp rfl) .nil) (.refl _) trivial trivial
end
end Go.Am
namespace Go.Am
open Go.RowKit
abbrev lX(d:Nat)(l:List Int):Prop:=l=az d\/(d=1/\l=[])
abbrev DF(x:Rat)(l:List Int):D:=.agg [.bool (decide (x.num<0)),ag (ak.int .i64) (az x.num.natAbs),.bool false,ag (ak.int .i64) l]
theorem uK{x:Rat}{ε:Env}{w:World}{S:cr}{v:Value}(h:(p8 x).p ε w S v):∃l,lX x.den l/\(DF x l).p ε w S v:=by
 obtain⟨cs,e,h1,ha⟩:=h
 rcases cs with _|⟨c1,_|⟨c2,_|⟨c3,_|⟨c4,cs⟩⟩⟩⟩
 ·exact ha.elim
 ·exact ha.2.elim
 ·exact ha.2.2.elim
 ·exact ha.2.2.2.elim
 ·obtain⟨a1,a2,a3,⟨l,hl,hp⟩,a5⟩:=ha
  exact⟨l,hl,_,e,h1,a1,a2,a3,hp,a5⟩
theorem aS.any{P:Program}{f:FuncId}{ds:List D}{d:D}{ι:Type}(dsi:ι->List D)(Q:ι->Prop)(i0:ι)(h0:Q i0)(h:∀i,Q i->aS P f [] (dsi i) [] d)(hn:bK ds=bK (dsi i0))
  (hc:∀ε w S vs,bW ε w S ds vs->∃i,Q i/\bW ε w S (dsi i) vs):aS P f [] ds [] d where
 ok:=(h i0 h0).ok
 D_:=by rw[hn];exact(h i0 h0).D_
 Fc:=(h i0 h0).Fc
 E4:=(h i0 h0).E4
 Cs:=(h i0 h0).Cs
 rI:=(h i0 h0).rI
 calls:=by
  intro A w ε φ vs h1 h2 h3 hv
  obtain⟨i,hq,hv'⟩:=hc _ _ _ _ hv
  exact(h i hq).calls A w ε φ vs h1 h2 h3 hv'
theorem aS.Ge{P:Program}{f:FuncId}{a:Rat}{ds:List D}{d:D}(h:∀l,lX a.den l->aS P f [] (DF a l::ds) [] d):aS P f [] (p8 a::ds) [] d:=by
 refine .any (fun l=>DF a l::ds) (lX a.den) (az a.den) (.inl rfl) h rfl ?_
 intro ε w S vs hv
 cases vs with
 |nil=>exact hv.elim
 |cons v vs=>
  obtain⟨l,hl,hp⟩:=uK hv.1
  exact⟨l,hl,hp,hv.2⟩
theorem aS.Gf{P:Program}{f:FuncId}{a b:Rat}{ds:List D}{d:D}(h:∀l m,lX a.den l->lX b.den m->aS P f [] (DF a l::DF b m::ds) [] d):aS P f [] (p8 a::p8 b::ds) [] d:=by
 refine .any (fun(x:List Int×List Int)=>DF a x.1::DF b x.2::ds) (fun x=>lX a.den x.1/\lX b.den x.2) (az a.den,az b.den) ⟨.inl rfl,.inl rfl⟩ (fun x hx=>h _ _ hx.1 hx.2) rfl ?_
 intro ε w S vs hv
 cases vs with
 |nil=>exact hv.elim
 |cons v vs=>
  cases vs with
  |nil=>exact hv.2.elim
  |cons v' vs=>
   obtain⟨l,hl,hp⟩:=uK hv.1
   obtain⟨m,hm,hp'⟩:=uK hv.2.1
   exact⟨(l,m),⟨hl,hm⟩,hp,hp',hv.2.2⟩
theorem aS.yT{P:Program}{f:FuncId}{ds:List D}{d d':D}(h:aS P f [] ds [] d)(hd:Le d d'):aS P f [] ds [] d':=(h.plain.out hd).gen
theorem Cq{d:Nat}:Le (ag (ak.int .i64) (az d)) (Ey d):=⟨fun _ _ _ _ h=>⟨_,.inl rfl,h⟩,fun r hr=>by cases hr⟩
theorem kO(x:Rat):Le (DF x (az x.den)) (p8 x):=.agg ⟨.refl _,.refl _,.refl _,Cq,trivial⟩
abbrev zz(z:Int):Bool×List Int:=(decide (z<0),az z.natAbs)
abbrev rr(x:Rat):(Bool×List Int)×(Bool×List Int):=(zz x.num,(false,az x.den))
theorem B0(d:Nat)(h:d≠0):((az d).length:Int)≠0:=by
 have:(az d).length≠0:=fun k=>h (py.1 k)
 omega
theorem DN:eY 1=some (false,az 1):=mQ 1 (by unfold eE;omega)
theorem fT(a:Rat)(neg:Bool)(n:List Int){l:List Int}(h:lX a.den l):dF neg n false l=some (false,az a.den):=by
 unfold dF
 rcases h with rfl|⟨h1,rfl⟩
 ·rw[if_neg (by rw[beq_iff_eq];exact B0 _ a.den_nz)]
 ·rw[if_pos (by decide),DN,h1];rfl
theorem rG{x:Nat}(h0:x≠0)(h:x<10000):az x=[(x:Int)]:=by
 rw[iK h0,Nat.mod_eq_of_lt h,Nat.div_eq_of_lt h,cM]
theorem Ap(g:Nat)(h0:g≠0):(if(((az g).length:Int)==1)=true then(ix (az g) 0).bind fun v24=>(if(v24==1)=true then some true else some false)else some false)=some (decide (g=1)):=by
 by_cases h1:g=1
 ·subst h1
  rw[rG (by decide) (by decide)];rfl
 ·by_cases hl:(((az g).length:Int)==1)=true
  ·rw[if_pos hl]
   have hl2:(az g).length=1:=by rw[beq_iff_eq]at hl;omega
   have hlt:=jS g
   rw[hl2]at hlt
   have e:az g=[(g:Int)]:=rG h0 (by omega)
   rw[e]
   have:ix [(g:Int)] 0=some (g:Int):=rfl
   rw[this,Option.bind_some,if_neg (by rw[beq_iff_eq];omega),decide_eq_false h1]
  ·rw[if_neg hl,decide_eq_false h1]
theorem C3{α:Type}(g:Nat)(h0:g≠0)(x y:α):(if(((az g).length:Int)==1)=true then(ix (az g) 0).bind fun v24=>(if(v24==1)=true then some x else some y)else some y)=some (if g=1 then x else y):=by
 have h:=Ap g h0
 by_cases hl:(((az g).length:Int)==1)=true
 ·rw[if_pos hl]at h|-
  obtain⟨v,e,h⟩:=bind_some h
  rw[e,Option.bind_some]
  by_cases hv:(v==1)=true
  ·rw[if_pos hv]at h|-
   injection h with h
   rw[if_pos (of_decide_eq_true h.symm)]
  ·rw[if_neg hv]at h|-
   injection h with h
   rw[if_neg (of_decide_eq_false h.symm)]
 ·rw[if_neg hl]at h|-
  injection h with h
  rw[if_neg (of_decide_eq_false h.symm)]
theorem qm(z:Int)(d:Nat)(hd:d≠0)(hz:sm z.natAbs)(hs:sm d):gL (decide (z<0)) (az z.natAbs) false (az d)=some (rr (mkRat z d)):=by
 obtain⟨e1,e2⟩:=ru z d hd
 have hg0:Nat.gcd z.natAbs d≠0:=fun h=>hd (Nat.eq_zero_of_gcd_eq_zero_right h)
 have hgd:Nat.gcd z.natAbs d∣d:=Nat.gcd_dvd_right _ _
 have hgs:sm (Nat.gcd z.natAbs d):=lQ (Nat.le_of_dvd (Nat.pos_of_ne_zero hd) hgd) hs
 have hsg:=Al z _ (Nat.gcd_dvd_left z.natAbs d)
 unfold gL
 rw[if_neg (by decide),Option.bind_some]
 dsimp only
 rw[C6 _ _ _ _ hz hs,Option.bind_some]
 dsimp only
 rw[C3 _ hg0,Option.bind_some]
 unfold rr zz
 rw[e1,e2]
 generalize Nat.gcd z.natAbs d=g at*
 by_cases h1:g=1
 ·rw[if_pos h1]
  dsimp only
  subst h1
  rw[Int.natCast_one,Int.ediv_one,Nat.div_one]
 ·rw[if_neg h1]
  dsimp only
  rw[uo _ _ hg0 hz hgs,Option.bind_some,uo _ _ hg0 hs hgs]
  simp only[Option.bind_some]
  rw[kW,hsg]
  simp only[Option.bind_some]
  rw[kW,mu]
  have:decide (sg false (d/g)<0)=false:=by unfold sg;rw[if_neg (by decide)];exact kq _
  rw[this];rfl
theorem AJ(z w:Int)(hw:w≠0)(hz:sm z.natAbs)(hs:sm w.natAbs):gL (decide (z<0)) (az z.natAbs) (decide (w<0)) (az w.natAbs)=some (rr (Rat.divInt z w)):=by
 by_cases h:w<0
 ·have e:gL (decide (z<0)) (az z.natAbs) (decide (w<0)) (az w.natAbs)=gL (decide (-z<0)) (az (-z).natAbs) (decide (-w<0)) (az (-w).natAbs):=by
   unfold gL
   rw[if_pos (decide_eq_true h),if_neg (by simp;omega),uH,uH]
   rfl
  obtain⟨d,hd⟩:∃d:Nat,-w=(d:Int):=⟨(-w).toNat,by omega⟩
  have h1:=qm (-z) d (by omega) (by rw[Int.natAbs_neg];exact hz) (by rw[←Int.natAbs_neg,hd,Int.natAbs_natCast]at hs;exact hs)
  rw[e,hd,kq,Int.natAbs_natCast,h1,←Rat.divInt_ofNat,←hd,Rat.neg_divInt_neg]
 ·obtain⟨d,rfl⟩:=Int.eq_ofNat_of_zero_le (show 0<=w by omega)
  rw[kq,Int.natAbs_natCast,qm z d (by omega) hz hs,←Rat.divInt_ofNat]
theorem B4(n:Int)(h:eE n):qg n=some (rr (n:Rat)):=by
 unfold qg rr
 rw[mQ n h,Option.bind_some]
 dsimp only
 rw[DN,Rat.num_intCast,Rat.den_intCast];rfl
theorem Dk(n d:Int)(h:eE n)(k:eE d)(h0:d≠0):ux n d=some (rr ((n:Rat)/(d:Rat))):=by
 unfold ux
 rw[mQ n h,Option.bind_some]
 dsimp only
 rw[mQ d k,Option.bind_some]
 dsimp only
 rw[AJ n d h0 (tV h) (tV k),Rat.divInt_eq_div];rfl
theorem t_(a b:Rat)(z:Int)(hz:sm z.natAbs)(hd:sm b.den):e_ (decide (z<0)) (az z.natAbs) false (az b.den)=some (zz (z*b.den)):=by
 have:=qe z (b.den:Int) hz (by rw[Int.natAbs_natCast];exact hd)
 rw[kq,Int.natAbs_natCast]at this
 exact this
theorem yb(a b:Rat)(ha:sm a.den)(hb:sm b.den):e_ false (az a.den) false (az b.den)=some (false,az (a.den*b.den)):=by
 have:=qe (a.den:Int) (b.den:Int) (by rw[Int.natAbs_natCast];exact ha) (by rw[Int.natAbs_natCast];exact hb)
 rw[kq,kq,Int.natAbs_natCast,Int.natAbs_natCast,←Int.natCast_mul,kq,Int.natAbs_natCast]at this
 exact this
section
variable {l m:List Int}
theorem BU(a b:Rat)(h:qw a)(k:qw b)(hl:lX a.den l)(hm:lX b.den m):ot (decide (a.num<0)) (az a.num.natAbs) false l (decide (b.num<0)) (az b.num.natAbs) false m=some (rr (a+b)):=by
 unfold ot
 rw[fT a _ _ hl,fT b _ _ hm]
 simp only[Option.bind_some]
 rw[t_ a b _ (fK h) (d_ k)]
 simp only[Option.bind_some]
 rw[t_ b a _ (fK k) (d_ h)]
 simp only[Option.bind_some]
 rw[Cm _ _ (fL (l4 h k) (by omega)) (fL (l4 k h) (by omega))]
 simp only[Option.bind_some]
 rw[yb a b (d_ h) (d_ k)]
 simp only[Option.bind_some]
 rw[qm _ _ (Nat.mul_ne_zero a.den_nz b.den_nz) (fL (jC (l4 h k) (l4 k h)) (by omega)) (fL (xU h k) (by omega)),←Rat.add_def']
 rfl
theorem vE(a:Rat)(hl:lX a.den l):oB (decide (a.num<0)) (az a.num.natAbs) false l=some (rr (-a)):=by
 unfold oB rr
 rw[uH,fT a _ _ hl,Rat.neg_num,Rat.neg_den];rfl
theorem Ay(a b:Rat)(h:qw a)(k:qw b)(hl:lX a.den l)(hm:lX b.den m):qG (decide (a.num<0)) (az a.num.natAbs) false l (decide (b.num<0)) (az b.num.natAbs) false m=some (rr (a-b)):=by
 unfold qG
 rw[vE b hm]
 simp only[Option.bind_some,rr,zz]
 rw[BU a (-b) h (by rw[A8];exact k) hl (.inl rfl),←Rat.sub_eq_add_neg];rfl
theorem z6(a b:Rat)(h:qw a)(k:qw b)(hl:lX a.den l)(hm:lX b.den m):qu (decide (a.num<0)) (az a.num.natAbs) false l (decide (b.num<0)) (az b.num.natAbs) false m=some (rr (a*b)):=by
 unfold qu
 rw[qe _ _ (fK h) (fK k),fT a _ _ hl,fT b _ _ hm]
 simp only[Option.bind_some]
 rw[yb a b (d_ h) (d_ k)]
 simp only[Option.bind_some]
 rw[qm _ _ (Nat.mul_ne_zero a.den_nz b.den_nz) (fL (DV h k) (by omega)) (fL (xU h k) (by omega)),←Rat.mul_def']
 rfl
theorem xz(a b:Rat):a/b=Rat.divInt (a.num*b.den) (a.den*b.num):=by
 have ea:=Rat.num_divInt_den a
 rw[Rat.div_def,Rat.inv_def]
 conv=>lhs;rw[←ea]
 rw[Rat.divInt_mul_divInt]
theorem AN(a b:Rat)(hb:b≠0)(h:qw a)(k:qw b)(hl:lX a.den l)(hm:lX b.den m):qz (decide (a.num<0)) (az a.num.natAbs) false l (decide (b.num<0)) (az b.num.natAbs) false m=some (rr (a/b)):=by
 have hn:b.num≠0:=fun h=>hb (Rat.num_eq_zero.1 h)
 unfold qz
 rw[fT a _ _ hl,fT b _ _ hm]
 simp only[Option.bind_some]
 rw[t_ a b _ (fK h) (d_ k)]
 simp only[Option.bind_some]
 have e:=qe (a.den:Int) b.num (by rw[Int.natAbs_natCast];exact d_ h) (fK k)
 rw[kq,Int.natAbs_natCast]at e
 rw[e]
 simp only[Option.bind_some]
 have hb2:bA ((a.den:Int)*b.num).natAbs<=4000000000000:=by
  rw[Int.natAbs_mul,Int.natAbs_natCast];exact Nat.le_trans (cA (nV h) (nZ k)) (by omega)
 rw[AJ _ _ (Int.mul_ne_zero (by have:=a.den_nz;omega) hn) (fL (l4 h k) (by omega)) (fL hb2 (by omega)),←xz]
 rfl
end
end Go.Am
namespace Go.Am
open Go.RowKit
section
variable {l m:List Int}
theorem CE{d:Nat}(h:(dR d).length=1):d<10/\d≠0:=by
 have h0:d≠0:=by intro e;subst e;rw[jc]at h;simp at h
 rw[l3 h0,List.length_cons]at h
 have h1:(dR (d/10)).length=0:=by omega
 refine⟨?_,h0⟩
 apply Nat.lt_of_not_le
 intro hc
 have:d/10≠0:=by omega
 rw[l3 this]at h1;simp at h1
theorem Ah{d:Nat}(h:d≠0):(gB d==([49]:List UInt8))=decide (d=1):=by
 by_cases h1:d=1
 ·subst h1
  have:gB 1=[49]:=by unfold gB;rw[if_neg (by decide),l3 (by decide),show(1:Nat)/10=0 from rfl,jc];rfl
  rw[this];rfl
 ·rw[decide_eq_false h1,beq_eq_false_iff_ne]
  intro he
  have hl:(dR d).length=1:=by
   have:=congrArg List.length he
   unfold gB bytesOf at this
   rw[if_neg h,List.length_map,List.length_reverse]at this
   exact this
  obtain⟨h2,_⟩:=CE hl
  unfold gB at he
  rw[if_neg h,l3 h,Nat.div_eq_of_lt h2,jc]at he
  simp only[List.reverse_cons,List.reverse_nil,List.nil_append,bytesOf,List.map_cons,List.map_nil,Int.toNat_natCast]at he
  injection he with he _
  have h3:=congrArg UInt8.toNat he
  rw[UInt8.toNat_ofNat',show(49:UInt8).toNat=49 from rfl]at h3
  omega
theorem yM(a:Rat)(h:eC a)(hl:lX a.den l):oZ (decide (a.num<0)) (az a.num.natAbs) false l=some (Fb a):=by
 have h1:(gB a.num.natAbs).length<=400000000001:=mn (gA.1 h).1
 have h2:(gB a.den).length<=400000000001:=mn (gA.1 h).2
 unfold oZ Fb
 rw[vc _ _ (fK (jk h)) (fun h0=>decide_eq_false (by omega)),Option.bind_some,fT a _ _ hl,Option.bind_some]
 dsimp only
 rw[vc _ _ (d_ (jk h)) (fun h0=>rfl),Option.bind_some]
 have e0:(if(false:Bool)=true then([45]:List UInt8)else [])++gB a.den=gB a.den:=by simp
 rw[e0,Ah a.den_nz]
 have e1:(if decide (a.num<0)=true then([45]:List UInt8)else [])=(if a.num<0 then [45]else []):=by simp
 rw[e1]
 have h3:((if a.num<0 then [45]else [])++gB a.num.natAbs:List UInt8).length<=400000000002:=by
  rw[List.length_append];split<;>simp only[List.length_cons,List.length_nil]<;>omega
 generalize ((if a.num<0 then [45]else [])++gB a.num.natAbs:List UInt8)=t at*
 by_cases hd:a.den=1
 ·rw[if_pos (decide_eq_true hd),if_pos hd,List.append_nil]
 ·rw[if_neg (by simpa using hd),if_neg hd]
  refine bY (by simp only[List.length_cons,List.length_nil];omega) (bY (by simp only[List.length_append,List.length_cons,List.length_nil];omega) ?_)
  rw[List.append_assoc];rfl
theorem w6(a:Rat)(l:List Int):oQ (decide (a.num<0)) (az a.num.natAbs) false l=some (zN a):=by
 unfold oQ oC
 rw[←yg]
 by_cases h:a.num<0
 ·rw[decide_eq_true h,if_pos (by decide),if_pos rfl,if_pos h];rfl
 ·rw[decide_eq_false h,if_neg (by decide),if_neg (by decide),if_neg h]
  by_cases h0:a.num=0
  ·rw[h0,if_pos rfl]
   have:=wK 0 0 (iA (by decide)) (iA (by decide))
   rw[cM]at this
   rw[show Int.natAbs 0=0 from rfl,cM,this];rfl
  ·rw[if_neg h0]
   have:=B0 a.num.natAbs (by omega)
   have hn:(((az a.num.natAbs).length:Int) !=((([]:List Int).length:Nat):Int))=true:=by
    rw[bne_iff_ne];exact this
   unfold jL
   rw[if_pos hn,if_neg (by simp)];rfl
end
end Go.Am
namespace Go.Am
open Go.RowKit
section
variable {l m:List Int}
end
end Go.Am
namespace Go.Am
open Go.RowKit
def iL(x:Rat):Rat:=if x<0 then-x else x
def closer(a c b:Rat):Bool:=decide (iD (iL (c-a)) (iL (b-a))<0)||(iD (iL (c-a)) (iL (b-a))==0&&(decide (fg c.den b.den<0)||(fg c.den b.den==0&&decide (iD c b<0))))
def ku(a:Rat)(n j:Nat)(b:Rat):Rat:=if closer a (mkRat ((a*(n:Int)).floor+(j:Int)) n) b then mkRat ((a*(n:Int)).floor+(j:Int)) n else b
def lV(a:Rat):Nat->Rat
 |0=>(a.floor:Rat)
 |n+1=>ku a (n+1) 1 (ku a (n+1) 0 (lV a n))
theorem DD(z:Int)(d n:Nat)(hd:d≠0)(h1:bA z.natAbs<=n)(h2:bA d<=n):sz (mkRat z d)<=n:=
 gA.2 ⟨Nat.le_trans (cW (mZ _ _)) h1,Nat.le_trans (cW (i5 _ _ hd)) h2⟩
theorem xR(a:Rat):sz (iL a)=sz a:=by unfold iL;exact EU a
section
open D
theorem DE{a1:Int}{r2:Rat}(h:gz a1=some r2):aS PP 41 [] [D.int .i64 a1] [] (p8 r2):=by
 obtain⟨h0,h⟩:=aw h
 injection h with h;subst h
 exact(Cr (B4 a1 h0)).yT (kO _)
def Ds(n d:Int):Option Rat:=bZ (eE n/\eE d/\d≠0) (some ((n:Rat)/(d:Rat)))
theorem Gp{a1:Int}{a2:Int}{r3:Rat}(h:Ds a1 a2=some r3):aS PP 37 [] [D.int .i64 a1,D.int .i64 a2] [] (p8 r3):=by
 obtain⟨h0,h⟩:=aw h
 injection h with h;subst h
 exact(D4 (Dk a1 a2 h0.1 h0.2.1 h0.2.2)).yT (kO _)
theorem FL{a1:Rat}{a2:Rat}{r3:Rat}(h:ky a1 a2=some r3):aS PP 45 [] [p8 a1,p8 a2] [] (p8 r3):=by
 obtain⟨h0,h⟩:=aw h
 injection h with h;subst h
 exact .Gf fun l m hl hm=>(Cy (Ay a1 a2 (jk h0.1) (jk h0.2) hl hm)).yT (kO _)
theorem Bb{a1:Rat}{a2:Rat}{r3:Rat}(h:iR a1 a2=some r3):aS PP 47 [] [p8 a1,p8 a2] [] (p8 r3):=by
 obtain⟨h0,h⟩:=aw h
 injection h with h;subst h
 exact .Gf fun l m hl hm=>(Ck (z6 a1 a2 (jk h0.1) (jk h0.2) hl hm)).yT (kO _)
theorem D3{a1:Rat}{a2:Rat}{r3:Rat}(h:gS a1 a2=some r3):aS PP 39 [] [p8 a1,p8 a2] [] (p8 r3):=by
 obtain⟨h0,h⟩:=aw h
 injection h with h;subst h
 exact .Gf fun l m hl hm=>(CZ (AN a1 a2 h0.1 (jk h0.2.1) (jk h0.2.2) hl hm)).yT (kO _)
theorem FD{a1:Rat}{r2:Rat}(h:vP a1=some r2):aS PP 49 [] [p8 a1] [] (p8 r2):=by
 injection h with h;subst h
 exact .Ge fun l hl=>(yj (vE a1 hl)).yT (kO _)
theorem Ax{a1:Rat}{r2:Int}(h:i_ a1=some r2):aS PP 31 [] [p8 a1] [] (D.int .i64 r2):=by
 injection h with h;subst h
 exact .Ge fun l hl=>AV (w6 a1 l)
theorem Ee{a1:Rat}{r2:List UInt8}(h:po a1=some r2):aS PP 162 [] [p8 a1] [] (bU r2):=by
 obtain⟨h0,h⟩:=aw h
 injection h with h;subst h
 exact .Ge fun l hl=>Bd (yM a1 h0 hl)
end
end Go.Am
namespace Go.Am
open Go.RowKit
set_option maxRecDepth 100000
noncomputable section
end
end Go.Am
namespace Go.Am
open Go.RowKit
section
variable {l m:List Int}
end
end Go.Am
namespace Go.Proofs
open Go.Shelf
def Tryz.vp:Go.Shelf.Ren:=⟨fun|160=>213|232=>241|231=>240|227=>242|234=>244|233=>243|236=>246|235=>245|228=>258|271=>261|151=>260|197=>259|120=>266|152=>265|260=>264|137=>267|119=>268|224=>256|225=>255|217=>254|266=>262|n=>n,fun|9=>9|4=>4|3=>3|5=>5|117=>271|116=>270|0=>0|124=>274|21=>21|105=>283|46=>246|119=>288|139=>291|138=>290|n=>n,fun|3=>1|4=>2|n=>n⟩
theorem Tryz.C1:Go.Proofs.Lays.n160 Tryz.prog Tryz.vp:={
 mixed:=by kernel_rfl
 f119:=Tryz.func268.trans (congrArg some (by kernel_rfl))
 f120:=Tryz.func266.trans (congrArg some (by kernel_rfl))
 f137:=Tryz.func267.trans (congrArg some (by kernel_rfl))
 f151:=Tryz.func260.trans (congrArg some (by kernel_rfl))
 f152:=Tryz.func265.trans (congrArg some (by kernel_rfl))
 f160:=Tryz.func213.trans (congrArg some (by kernel_rfl))
 f197:=Tryz.func259.trans (congrArg some (by kernel_rfl))
 f217:=Tryz.func254.trans (congrArg some (by kernel_rfl))
 f224:=Tryz.func256.trans (congrArg some (by kernel_rfl))
 f225:=Tryz.func255.trans (congrArg some (by kernel_rfl))
 f227:=Tryz.func242.trans (congrArg some (by kernel_rfl))
 f228:=Tryz.func258.trans (congrArg some (by kernel_rfl))
 f231:=Tryz.func240.trans (congrArg some (by kernel_rfl))
 f232:=Tryz.func241.trans (congrArg some (by kernel_rfl))
 f233:=Tryz.func243.trans (congrArg some (by kernel_rfl))
 f234:=Tryz.func244.trans (congrArg some (by kernel_rfl))
 f235:=Tryz.func245.trans (congrArg some (by kernel_rfl))
 f236:=Tryz.func246.trans (congrArg some (by kernel_rfl))
 f260:=Tryz.func264.trans (congrArg some (by kernel_rfl))
 f266:=Tryz.func262.trans (congrArg some (by kernel_rfl))
 f271:=Tryz.func261.trans (congrArg some (by kernel_rfl))
 t0:=Tryz.underlying0
 a0:=Tryz.isAgg0
 z0:=Tryz.sizeOf0
 v0:=Tryz.zeroValue0
 t3:=Tryz.underlying3
 a3:=Tryz.isAgg3
 z3:=Tryz.sizeOf3
 v3:=Tryz.zeroValue3
 t4:=Tryz.underlying4
 a4:=Tryz.isAgg4
 z4:=Tryz.sizeOf4
 v4:=Tryz.zeroValue4
 t5:=Tryz.underlying5
 a5:=Tryz.isAgg5
 z5:=Tryz.sizeOf5
 v5:=Tryz.zeroValue5
 t9:=Tryz.underlying9
 a9:=Tryz.isAgg9
 z9:=Tryz.sizeOf9
 v9:=Tryz.zeroValue9
 t21:=Tryz.underlying21
 a21:=Tryz.isAgg21
 z21:=Tryz.sizeOf21
 v21:=Tryz.zeroValue21
 t46:=Tryz.underlying246
 a46:=Tryz.isAgg246
 z46:=Tryz.sizeOf246
 v46:=Tryz.zeroValue246
 t105:=Tryz.underlying283
 a105:=Tryz.isAgg283
 z105:=Tryz.sizeOf283
 v105:=Tryz.zeroValue283
 t116:=Tryz.underlying270
 a116:=Tryz.isAgg270
 z116:=Tryz.sizeOf270
 t117:=Tryz.underlying271
 a117:=Tryz.isAgg271
 z117:=Tryz.sizeOf271
 v117:=Tryz.zeroValue271
 t119:=Tryz.underlying288
 a119:=Tryz.isAgg288
 z119:=Tryz.sizeOf288
 t124:=Tryz.underlying274
 a124:=Tryz.isAgg274
 z124:=Tryz.sizeOf274
 v124:=Tryz.zeroValue274
 t138:=Tryz.underlying290
 a138:=Tryz.isAgg290
 z138:=Tryz.sizeOf290
 v138:=Tryz.zeroValue290
 t139:=Tryz.underlying291
 a139:=Tryz.isAgg291
 z139:=Tryz.sizeOf291
 v139:=Tryz.zeroValue291
 g3:=by kernel_rfl
 g4:=by kernel_rfl}
def Tryz.wh:Go.Shelf.Ren:=⟨fun|219=>239|217=>254|225=>255|224=>256|267=>257|266=>262|314=>263|n=>n,fun|9=>9|3=>3|4=>4|5=>5|46=>246|146=>275|51=>230|n=>n,fun|1=>0|n=>n⟩
theorem Tryz.C4:Go.Proofs.Lays.n219 Tryz.prog Tryz.wh:={
 mixed:=by kernel_rfl
 f217:=Tryz.func254.trans (congrArg some (by kernel_rfl))
 f219:=Tryz.func239.trans (congrArg some (by kernel_rfl))
 f224:=Tryz.func256.trans (congrArg some (by kernel_rfl))
 f225:=Tryz.func255.trans (congrArg some (by kernel_rfl))
 f266:=Tryz.func262.trans (congrArg some (by kernel_rfl))
 f267:=Tryz.func257.trans (congrArg some (by kernel_rfl))
 f314:=Tryz.func263.trans (congrArg some (by kernel_rfl))
 t3:=Tryz.underlying3
 a3:=Tryz.isAgg3
 z3:=Tryz.sizeOf3
 v3:=Tryz.zeroValue3
 t4:=Tryz.underlying4
 a4:=Tryz.isAgg4
 z4:=Tryz.sizeOf4
 v4:=Tryz.zeroValue4
 t5:=Tryz.underlying5
 a5:=Tryz.isAgg5
 z5:=Tryz.sizeOf5
 v5:=Tryz.zeroValue5
 t9:=Tryz.underlying9
 a9:=Tryz.isAgg9
 z9:=Tryz.sizeOf9
 v9:=Tryz.zeroValue9
 t46:=Tryz.underlying246
 a46:=Tryz.isAgg246
 z46:=Tryz.sizeOf246
 v46:=Tryz.zeroValue246
 t51:=Tryz.underlying230
 a51:=Tryz.isAgg230
 z51:=Tryz.sizeOf230
 v51:=Tryz.zeroValue230
 t146:=Tryz.underlying275
 a146:=Tryz.isAgg275
 z146:=Tryz.sizeOf275
 v146:=Tryz.zeroValue275
 g1:=by kernel_rfl}
open Go.RowKit Go.Lib in
theorem Tryz.stringslite_Index_one(s:ByteArray)(c:UInt8)(w:World):
  Calls Tryz.prog 239 #[.string s,.string ⟨#[c]⟩] w fun e w'=>e=.returned (.int .i64 (Lib.indexByte s.data.toList c))/\w'=w:=Any.stringslite_Index_one Tryz.C4 s c w
end Go.Proofs
namespace Go.Am
open Go.RowKit
theorem kC.xG{P:Program}{f:FuncId}{ss:List (List UInt8)}{d:D}(hok:nf P f=true)(hnm:d.nm=[])(v:Value)(hv:∀ε w S,d.p ε w S v)
  (h:∀w,Calls P f (ss.map fun s=>Value.string ⟨s.toArray⟩).toArray w (fun e w'=>e=.returned v/\Below w.heap.size w w')):kC P f (ss.map bU) d where
 ok:=hok
 bK:=by
  induction ss with
  |nil=>rfl
  |cons s ss ih=>exact tF (fun _=>rfl) (s::ss)
 nm:=hnm
 calls:=by
  intro A w vs hvs
  have e:vs=ss.map fun s=>Value.string ⟨s.toArray⟩:=by
   clear h
   induction ss generalizing vs with
   |nil=>cases vs with|nil=>rfl|cons _ _=>exact hvs.elim
   |cons s ss ih=>
    cases vs with
    |nil=>exact hvs.elim
    |cons v vs=>rw[List.map_cons,ih vs hvs.2,show v=_ from hvs.1]
  subst e
  exact(h w).mono (fun e w' ⟨h1,h2⟩=>⟨v,h1,hv _ _ _,h2⟩)
def xl(s cut:List UInt8):Option (List UInt8):=bZ (s.length<=9223372036854775807/\cut.length<4294967281/\∀b∈cut,b.toNat<128) (some (Lib.trimS s cut))
theorem ES{s cut r:List UInt8}(h:xl s cut=some r):aS PP 213 [] [bU s,bU cut] [] (bU r):=by
 obtain⟨⟨h0,h1,h2⟩,h⟩:=aw h
 injection h with h;subst h
 refine(kC.xG (ss:=[s,cut]) (by kernel_rfl) rfl (.string ⟨(Lib.trimS s cut).toArray⟩) (fun _ _ _=>rfl) (fun w=>?_)).gen
 exact Go.Proofs.Any.strings_Trim_ascii Go.Proofs.Tryz.C1 (fun _=>by kernel_rfl) (by kernel_rfl) ⟨s.toArray⟩ ⟨cut.toArray⟩ w h0 h1 (fun j b hj=>h2 b (List.mem_of_getElem? hj))
def uD(s sep:List UInt8):Option Int:=bZ (sep.length=1) (some (Lib.indexByte s (sep.getD 0 0)))
theorem C_{s sep:List UInt8}{r:Int}(h:uD s sep=some r):aS PP 239 [] [bU s,bU sep] [] (D.int .i64 r):=by
 obtain⟨h0,h⟩:=aw h
 injection h with h;subst h
 match sep,h0 with
 |[c],_=>
  refine(kC.xG (ss:=[s,[c]]) (by kernel_rfl) rfl (.int .i64 (Lib.indexByte s c)) (fun _ _ _=>rfl) (fun w=>?_)).gen
  exact(Go.Proofs.Tryz.stringslite_Index_one ⟨s.toArray⟩ c w).mono (fun e w' ⟨h1,h2⟩=>⟨h1,h2▸Below.refl _ _⟩)
end Go.Am
namespace Go.Am
open Go.RowKit
set_option maxRecDepth 100000
noncomputable section
def ik(a1:List UInt8)(a2:List UInt8):Option Bool:=(if(decide ((a1.length:Int)>=(a2.length:Int)))=true then bZ ((0:Int)<=(a2.length:Int)/\((a2.length:Int):Int)<=(a1.length:Int)) (some ((List.take (a2.length:Int).toNat a1)==a2))else some false)
theorem rv{a1:List UInt8}{a2:List UInt8}{r5:Bool}(h:ik a1 a2=some r5):aS PP 238 [] [bU a1,bU a2] [] (D.bool r5):=by
 unfold ik at h
 refine .of Go.Proofs.Tryz.func238 rfl (by kernel_rfl) rfl rfl rfl rfl rfl rfl (fun A w0 L b=>?_)
 show Ok PP _ [(0,bU a1),(1,bU a2)] [] _ _
 refine .al (.aq rfl<|.nil) rfl ?_
 by_cases c3:(decide ((a1.length:Int)>=(a2.length:Int)))=true
 ·replace h:=aa c3 h
  obtain⟨k4,h⟩:=aw h
  refine .al (.mv rfl<|.tY rfl ct<|.mv rfl<|.tY rfl ct<|.cm rfl rfl rfl<|.mv rfl<|.aV rfl rfl rfl c3<|.mv rfl<|.aV rfl rfl rfl c3<|.mv rfl<|.aV rfl rfl rfl c3<|.tY rfl ct<|.aV rfl rfl rfl c3<|.GB rfl rfl ct k4.1 k4.2<|.aV rfl rfl rfl c3<|.mv rfl<|.aV rfl rfl rfl c3<|.Ep rfl rfl<|.bn rfl c3 rfl<|.aq rfl<|.nil) rfl ?_
  cases h
  refine .aH (fun _ _ hb=>hb) rfl (.cons (.tmp rfl) .nil) (.refl _) trivial trivial
 ·replace h:=ab c3 h
  refine .al (.mv rfl<|.tY rfl ct<|.mv rfl<|.tY rfl ct<|.cm rfl rfl rfl<|.mv rfl<|.aT rfl rfl rfl c3<|.aT rfl rfl rfl c3<|.aT rfl rfl rfl c3<|.aT rfl rfl rfl c3<|.aT rfl rfl rfl c3<|.aT rfl rfl rfl c3<|.bm rfl c3 rfl<|.aq rfl<|.nil) rfl ?_
  cases h
  refine .aH (fun _ _ hb=>hb) rfl (.cons (.tmp rfl) .nil) (.refl _) trivial trivial
def iM(a1:List UInt8)(a2:List UInt8):Option ((List UInt8)×Bool):=(ik a1 a2).bind fun v3=>(if(!v3)=true then some (a1,false)else bZ ((0:Int)<=(a2.length:Int)/\((a2.length:Int):Int)<=(a1.length:Int)) (some ((List.drop (a2.length:Int).toNat a1),true)))
theorem qZ{a1:List UInt8}{a2:List UInt8}{r7:List UInt8}{r8:Bool}(h:iM a1 a2=some (r7,r8)):aS PP 209 [] [bU a1,bU a2] [] (D.iC [bU r7,D.bool r8]):=by
 unfold iM at h
 refine .of Go.Proofs.Tryz.func209 rfl (by kernel_rfl) rfl rfl rfl rfl rfl rfl (fun A w0 L b=>?_)
 show Ok PP _ [(0,bU a1),(1,bU a2)] [] _ _
 refine .al (.aq rfl<|.aq rfl<|.nil) rfl ?_
 refine .sq ?_
 obtain⟨v3,e4,h⟩:=bind_some h
 refine .al (.mv rfl<|.mv rfl<|.ah (rv e4) ⟨rfl,rfl,trivial⟩ trivial trivial<|.not rfl<|.nil) rfl ?_
 by_cases c5:(!v3)=true
 ·replace h:=aa c5 h
  refine .cj rfl c5 ?_
  refine .al (.mv rfl<|.aq rfl<|.aq rfl<|.nil) rfl ?_
  cases h
  refine .aH (fun _ _ hb=>hb) rfl (.cons (.tmp rfl) (.cons (.tmp rfl) .nil)) (.refl _) trivial trivial
 ·replace h:=ab c5 h
  refine .ck rfl c5 ?_
  refine .skip (Ok.on ?_)
  obtain⟨k6,h⟩:=aw h
  refine .al (.mv rfl<|.mv rfl<|.tY rfl ct<|.F_ rfl rfl ct k6.1 k6.2<|.aq rfl<|.aq rfl<|.nil) rfl ?_
  cases h
  refine .aH (fun _ _ hb=>hb) rfl (.cons (.tmp rfl) (.cons (.tmp rfl) .nil)) (.refl _) trivial trivial
def gD(a1:List UInt8)(a2:List UInt8):Option ((List UInt8)×Bool):=(iM a1 a2).bind fun(v3,v4)=>some (v3,v4)
theorem sB{a1:List UInt8}{a2:List UInt8}{r6:List UInt8}{r7:Bool}(h:gD a1 a2=some (r6,r7)):aS PP 144 [] [bU a1,bU a2] [] (D.iC [bU r6,D.bool r7]):=by
 unfold gD at h
 refine .of Go.Proofs.Tryz.func144 rfl (by kernel_rfl) rfl rfl rfl rfl rfl rfl (fun A w0 L b=>?_)
 show Ok PP _ [(0,bU a1),(1,bU a2)] [] _ _
 refine .al (.aq rfl<|.aq rfl<|.nil) rfl ?_
 obtain⟨⟨v3,v4⟩,e5,h⟩:=bind_some h
 refine .al (.mv rfl<|.mv rfl<|.ah (qZ e5) ⟨rfl,rfl,trivial⟩ trivial trivial<|.ext rfl rfl<|.ext rfl rfl<|.aq rfl<|.aq rfl<|.nil) rfl ?_
 cases h
 refine .aH (fun _ _ hb=>hb) rfl (.cons (.tmp rfl) (.cons (.tmp rfl) .nil)) (.refl _) trivial trivial
def n9(a1:List UInt8)(a2:List UInt8):Option ((List UInt8)×(List UInt8)×Bool):=(uD a1 a2).bind fun v3=>(if(decide (v3>=0))=true then bZ ((0:Int)<=v3/\(v3:Int)<=(a1.length:Int)) (bZ ((0:Int)<=(IntKind.i64.wrap (v3+(a2.length:Int)))/\((IntKind.i64.wrap (v3+(a2.length:Int))):Int)<=(a1.length:Int)) (some ((List.take v3.toNat a1),(List.drop (IntKind.i64.wrap (v3+(a2.length:Int))).toNat a1),true)))else some (a1,([]:List UInt8),false))
theorem Bc{a1:List UInt8}{a2:List UInt8}{r8:List UInt8}{r9:List UInt8}{r10:Bool}(h:n9 a1 a2=some (r8,r9,r10)):aS PP 211 [] [bU a1,bU a2] [] (D.iC [bU r8,bU r9,D.bool r10]):=by
 unfold n9 at h
 refine .of Go.Proofs.Tryz.func211 rfl (by kernel_rfl) rfl rfl rfl rfl rfl rfl (fun A w0 L b=>?_)
 show Ok PP _ [(0,bU a1),(1,bU a2)] [] _ _
 refine .al (.aq rfl<|.aq rfl<|.aq rfl<|.nil) rfl ?_
 refine .sq ?_
 obtain⟨v3,e4,h⟩:=bind_some h
 refine .al (.mv rfl<|.mv rfl<|.ah (C_ e4) ⟨rfl,rfl,trivial⟩ trivial trivial<|.aq rfl<|.nil) rfl ?_
 refine .al (.mv rfl<|.cm rfl rfl rfl<|.nil) rfl ?_
 by_cases c5:(decide (v3>=0))=true
 ·replace h:=aa c5 h
  refine .cj rfl c5 ?_
  obtain⟨k6,h⟩:=aw h
  obtain⟨k7,h⟩:=aw h
  refine .dc cg (.mv rfl<|.mv rfl<|.GB rfl rfl ct k6.1 k6.2<|.mv rfl<|.mv rfl<|.mv rfl<|.tY rfl ct<|.ar rfl rfl rfl<|.F_ rfl rfl ct k7.1 k7.2<|.aq rfl<|.aq rfl<|.aq rfl<|.nil) rfl (by kernel_rfl) ?_
  cases h
  refine .aH (fun _ _ hb=>hb) rfl (.cons (.tmp rfl) (.cons (.tmp rfl) (.cons (.tmp rfl) .nil))) (.refl _) trivial trivial
 ·replace h:=ab c5 h
  refine .ck rfl c5 ?_
  refine .skip (Ok.on ?_)
  refine .al (.mv rfl<|.aq rfl<|.aq rfl<|.aq rfl<|.nil) rfl ?_
  cases h
  refine .aH (fun _ _ hb=>hb) rfl (.cons (.tmp rfl) (.cons (.tmp rfl) (.cons (.tmp rfl) .nil))) (.refl _) trivial trivial
def ks(a1:List UInt8)(a2:List UInt8):Option ((List UInt8)×(List UInt8)×Bool):=(n9 a1 a2).bind fun(v3,v4,v5)=>some (v3,v4,v5)
theorem yu{a1:List UInt8}{a2:List UInt8}{r7:List UInt8}{r8:List UInt8}{r9:Bool}(h:ks a1 a2=some (r7,r8,r9)):aS PP 146 [] [bU a1,bU a2] [] (D.iC [bU r7,bU r8,D.bool r9]):=by
 unfold ks at h
 refine .of Go.Proofs.Tryz.func146 rfl (by kernel_rfl) rfl rfl rfl rfl rfl rfl (fun A w0 L b=>?_)
 show Ok PP _ [(0,bU a1),(1,bU a2)] [] _ _
 refine .al (.aq rfl<|.aq rfl<|.aq rfl<|.nil) rfl ?_
 obtain⟨⟨v3,v4,v5⟩,e6,h⟩:=bind_some h
 refine .al (.mv rfl<|.mv rfl<|.ah (Bc e6) ⟨rfl,rfl,trivial⟩ trivial trivial<|.ext rfl rfl<|.ext rfl rfl<|.ext rfl rfl<|.aq rfl<|.aq rfl<|.aq rfl<|.nil) rfl ?_
 cases h
 refine .aH (fun _ _ hb=>hb) rfl (.cons (.tmp rfl) (.cons (.tmp rfl) (.cons (.tmp rfl) .nil))) (.refl _) trivial trivial
def kb(a1:List UInt8):Option Bool:=(if(!(a1==([]:List UInt8)))=true then(xl a1 ([48,49,50,51,52,53,54,55,56,57]:List UInt8)).bind fun v3=>some (v3==([]:List UInt8))else some false)
theorem og{a1:List UInt8}{r5:Bool}(h:kb a1=some r5):aS PP 149 [] [bU a1] [] (D.bool r5):=by
 unfold kb at h
 refine .of Go.Proofs.Tryz.func149 rfl (by kernel_rfl) rfl rfl rfl rfl rfl rfl (fun A w0 L b=>?_)
 show Ok PP _ [(0,bU a1)] [] _ _
 refine .al (.aq rfl<|.nil) rfl ?_
 by_cases c2:(!(a1==([]:List UInt8)))=true
 ·replace h:=aa c2 h
  obtain⟨v3,e4,h⟩:=bind_some h
  refine .al (.mv rfl<|.GK rfl rfl<|.mv rfl<|.aV rfl rfl rfl c2<|.mv rfl<|.aV rfl rfl rfl c2<|.ah (ES e4) ⟨rfl,rfl,trivial⟩ trivial trivial<|.aV rfl rfl rfl c2<|.Ep rfl rfl<|.bn rfl c2 rfl<|.aq rfl<|.nil) rfl ?_
  cases h
  refine .aH (fun _ _ hb=>hb) rfl (.cons (.tmp rfl) .nil) (.refl _) trivial trivial
 ·replace h:=ab c2 h
  refine .al (.mv rfl<|.GK rfl rfl<|.mv rfl<|.aT rfl rfl rfl c2<|.aT rfl rfl rfl c2<|.aT rfl rfl rfl c2<|.bm rfl c2 rfl<|.aq rfl<|.nil) rfl ?_
  cases h
  refine .aH (fun _ _ hb=>hb) rfl (.cons (.tmp rfl) .nil) (.refl _) trivial trivial
def je(a1:List UInt8):Option Bool:=(kb a1).bind fun v2=>(if v2=true then(if(a1==([48]:List UInt8))=true then some true else(ix a1 0).bind fun v6=>some ((v6.toNat:Int) !=48))else some false)
theorem m4{a1:List UInt8}{r8:Bool}(h:je a1=some r8):aS PP 147 [] [bU a1] [] (D.bool r8):=by
 unfold je at h
 refine .of Go.Proofs.Tryz.func147 rfl (by kernel_rfl) rfl rfl rfl rfl rfl rfl (fun A w0 L b=>?_)
 show Ok PP _ [(0,bU a1)] [] _ _
 refine .al (.aq rfl<|.nil) rfl ?_
 obtain⟨v2,e3,h⟩:=bind_some h
 by_cases c4:v2=true
 ·replace h:=aa c4 h
  by_cases c5:(a1==([48]:List UInt8))=true
  ·replace h:=aa c5 h
   refine .al (.mv rfl<|.ah (og e3) ⟨rfl,trivial⟩ trivial trivial<|.mv rfl<|.aV rfl rfl rfl c4<|.mv rfl<|.aV rfl rfl rfl c4<|.Ep rfl rfl<|.aV rfl rfl rfl c4<|.mv rfl<|.eQ rfl rfl rfl c5<|.eQ rfl rfl rfl c5<|.eQ rfl rfl rfl c5<|.aV rfl rfl rfl c4<|.bn rfl c5 rfl<|.bn rfl c4 rfl<|.aq rfl<|.nil) rfl ?_
   cases h
   refine .aH (fun _ _ hb=>hb) rfl (.cons (.tmp rfl) .nil) (.refl _) trivial trivial
  ·replace h:=ab c5 h
   obtain⟨v6,e7,h⟩:=bind_some h
   refine .al (.mv rfl<|.ah (og e3) ⟨rfl,trivial⟩ trivial trivial<|.mv rfl<|.aV rfl rfl rfl c4<|.mv rfl<|.aV rfl rfl rfl c4<|.Ep rfl rfl<|.aV rfl rfl rfl c4<|.mv rfl<|.dn rfl rfl rfl c5<|.mv rfl<|.dn rfl rfl rfl c5<|.GN rfl rfl ct (af e7).1 (af e7).2<|.dn rfl rfl rfl c5<|.cm rfl rfl rfl<|.aV rfl rfl rfl c4<|.bm rfl c5 rfl<|.bn rfl c4 rfl<|.aq rfl<|.nil) rfl ?_
   cases h
   refine .aH (fun _ _ hb=>hb) rfl (.cons (.tmp rfl) .nil) (.refl _) trivial trivial
 ·replace h:=ab c4 h
  refine .al (.mv rfl<|.ah (og e3) ⟨rfl,trivial⟩ trivial trivial<|.mv rfl<|.aT rfl rfl rfl c4<|.aT rfl rfl rfl c4<|.aT rfl rfl rfl c4<|.gU rfl rfl<|.gU rfl rfl<|.gU rfl rfl<|.aT rfl rfl rfl c4<|.bm rfl c4 rfl<|.aq rfl<|.nil) rfl ?_
  cases h
  refine .aH (fun _ _ hb=>hb) rfl (.cons (.tmp rfl) .nil) (.refl _) trivial trivial
def g_(v27:List UInt8)(v42:Nat)(v43:Int):Option (St (Nat×Int) Nat):=(if(decide (v43<(v27.length:Int)))=true then(lN 10).bind fun v49=>(ow v42 v49).bind fun v51=>some (St.next (v51,(IntKind.i64.wrap (v43+1))))else some (St.done v42))
def qP(a1:List UInt8):Option (((Bool×Nat)×Nat)×Int):=(if(decide ((a1.length:Int)>1000))=true then some (((false,0),0),5)else(gD a1 ([45]:List UInt8)).bind fun(v3,v4)=>(lN 1).bind fun v6=>((ks v3 ([47]:List UInt8)).bind fun(v10,v11,v12)=>(if v12=true then(je v10).bind fun v15=>(if(!v15)=true then some (Ex.ret (((false,0),0),4))else(je v11).bind fun v18=>(if(!v18)=true then some (Ex.ret (((false,0),0),4))else(mE v10).bind fun v21=>(mE v11).bind fun v23=>(if(((aD v23).length:Int)==0)=true then some (Ex.ret (((false,0),0),9))else some (Ex.da (v21,v23)))))else(ks v3 ([46]:List UInt8)).bind fun(v26,v27,v28)=>((je v26).bind fun v32=>(if(!v32)=true then some (Ex.ret (((false,0),0),4))else(if v28=true then(kb v27).bind fun v36=>(if(!v36)=true then some (Ex.ret (((false,0),0),4))else some (Ex.da ()))else some (Ex.da ())))).bind fun o30=>(match o30 with|Ex.da ()=>bZ (v26.length+v27.length<=9223372036854775807) ((mE (v26++v27)).bind fun v40=>(Loop (fun(s:Nat×Int)=>g_ v27 s.1 s.2) (v6,0)).bind fun v53=>some (Ex.da (v40,v53)))|Ex.ret (((r54,r55),r56),r57)=>some (Ex.ret (((r54,r55),r56),r57))))).bind fun o8=>(match o8 with|Ex.da (v58,v59)=>(cu v4 v58).bind fun(v60,v61)=>(ec v60 v61 v59).bind fun((v63,v64),v65)=>some (((v63,v64),v65),0)|Ex.ret (((r67,r68),r69),r70)=>some (((r67,r68),r69),r70)))
theorem B_{a1:List UInt8}{r71:Bool}{r72:Nat}{r73:Nat}{r74:Int}(h:qP a1=some (((r71,r72),r73),r74)):aS PP 23 [] [bU a1] [] (D.iC [D.agg ([D.bool r71,aj r72,aj r73]),D.int .i64 r74]):=by
 unfold qP at h
 refine .of Go.Proofs.Tryz.func23 rfl (by kernel_rfl) rfl rfl rfl rfl rfl rfl (fun A w0 L b=>?_)
 show Ok PP _ [(0,bU a1)] [] _ _
 refine .al (.gd ([D.bool false,aj 0,aj 0]) aJ ⟨.refl _,aU,aU,trivial⟩ rfl<|.aq rfl<|.nil) rfl ?_
 refine .sq ?_
 refine .al (.mv rfl<|.tY rfl ct<|.cm rfl rfl rfl<|.nil) rfl ?_
 by_cases c2:(decide ((a1.length:Int)>1000))=true
 ·replace h:=aa c2 h
  refine .cj rfl c2 ?_
  refine .al (.nW ([D.bool false,aj 0,aj 0]) [] aJ cR trivial trivial ⟨.refl _,aU,aU,trivial⟩<|.cH ([D.bool false,aj 0,aj 0]) rfl rfl rfl ae rfl rfl rfl<|.aq rfl<|.nil) rfl ?_
  cases h
  refine .aH (fun _ _ hb=>hb) rfl (.cons (.agg rfl rfl ae rfl) (.cons (.tmp rfl) .nil)) (.refl _) trivial trivial
 ·replace h:=ab c2 h
  refine .ck rfl c2 ?_
  refine .skip (Ok.on ?_)
  obtain⟨⟨v3,v4⟩,e5,h⟩:=bind_some h
  refine .al (.mv rfl<|.ah (sB e5) ⟨rfl,rfl,trivial⟩ trivial trivial<|.mv rfl<|.ext rfl rfl<|.ext rfl rfl<|.aq rfl<|.aq rfl<|.nil) rfl ?_
  obtain⟨v6,e7,h⟩:=bind_some h
  refine .al (.ah (sA e7) ⟨rfl,trivial⟩ trivial trivial<|.aq rfl<|.aq rfl<|.nil) rfl ?_
  obtain⟨o8,hp9,h⟩:=bind_some h
  refine .cd (fun i=>o8=Ex.da i) (fun(i:Nat×Nat)=>[(2,D.ref 2 0),(4,D.bool v4),(5,aj i.1),(6,aj i.2)]) (fun(i:Nat×Nat)=>[(2,Hp.box 28 ([D.bool false,aj 0,aj 0]))]) ?_ ?_
  ·have ho1:=h
   clear h
   have h:=hp9
   clear hp9
   obtain⟨⟨v10,v11,v12⟩,e13,h⟩:=bind_some h
   refine .al (.mv rfl<|.ah (yu e13) ⟨rfl,rfl,trivial⟩ trivial trivial<|.mv rfl<|.ext rfl rfl<|.ext rfl rfl<|.ext rfl rfl<|.aq rfl<|.aq rfl<|.aq rfl<|.nil) rfl ?_
   refine .al (.mv rfl<|.nil) rfl ?_
   by_cases c14:v12=true
   ·replace h:=aa c14 h
    refine .cj rfl c14 ?_
    refine .sq ?_
    obtain⟨v15,e16,h⟩:=bind_some h
    by_cases c17:(!v15)=true
    ·replace h:=aa c17 h
     refine .al (.mv rfl<|.ah (m4 e16) ⟨rfl,trivial⟩ trivial trivial<|.not rfl<|.mv rfl<|.eQ rfl rfl rfl c17<|.eQ rfl rfl rfl c17<|.eQ rfl rfl rfl c17<|.bn rfl c17 rfl<|.nil) rfl ?_
     refine .cj rfl rfl ?_
     refine .al (.nW ([D.bool false,aj 0,aj 0]) [] aJ cR trivial trivial ⟨.refl _,aU,aU,trivial⟩<|.cH ([D.bool false,aj 0,aj 0]) rfl rfl rfl ae rfl rfl rfl<|.aq rfl<|.nil) rfl ?_
     cases h
     have h:=ho1
     clear ho1
     cases h
     refine .aH (fun _ _ hb=>hb) rfl (.cons (.agg rfl rfl ae rfl) (.cons (.tmp rfl) .nil)) (.refl _) trivial trivial
    ·replace h:=ab c17 h
     obtain⟨v18,e19,h⟩:=bind_some h
     refine .al (.mv rfl<|.ah (m4 e16) ⟨rfl,trivial⟩ trivial trivial<|.not rfl<|.mv rfl<|.dn rfl rfl rfl c17<|.mv rfl<|.dn rfl rfl rfl c17<|.ah (m4 e19) ⟨rfl,trivial⟩ trivial trivial<|.dn rfl rfl rfl c17<|.not rfl<|.bm rfl c17 rfl<|.nil) rfl ?_
     by_cases c20:(!v18)=true
     ·replace h:=aa c20 h
      refine .cj rfl c20 ?_
      refine .al (.nW ([D.bool false,aj 0,aj 0]) [] aJ cR trivial trivial ⟨.refl _,aU,aU,trivial⟩<|.cH ([D.bool false,aj 0,aj 0]) rfl rfl rfl ae rfl rfl rfl<|.aq rfl<|.nil) rfl ?_
      cases h
      have h:=ho1
      clear ho1
      cases h
      refine .aH (fun _ _ hb=>hb) rfl (.cons (.agg rfl rfl ae rfl) (.cons (.tmp rfl) .nil)) (.refl _) trivial trivial
     ·replace h:=ab c20 h
      refine .ck rfl c20 ?_
      refine .skip (Ok.on ?_)
      obtain⟨v21,e22,h⟩:=bind_some h
      obtain⟨v23,e24,h⟩:=bind_some h
      refine .al (.mv rfl<|.ah (xD e22) ⟨rfl,trivial⟩ trivial trivial<|.mv rfl<|.ah (xD e24) ⟨rfl,trivial⟩ trivial trivial<|.aq rfl<|.aq rfl<|.nil) rfl ?_
      refine .al (.mv rfl<|.wy rfl av<|.cm rfl rfl rfl<|.nil) rfl ?_
      by_cases c25:(((aD v23).length:Int)==0)=true
      ·replace h:=aa c25 h
       refine .cj rfl c25 ?_
       refine .al (.nW ([D.bool false,aj 0,aj 0]) [] aJ cR trivial trivial ⟨.refl _,aU,aU,trivial⟩<|.cH ([D.bool false,aj 0,aj 0]) rfl rfl rfl ae rfl rfl rfl<|.aq rfl<|.nil) rfl ?_
       cases h
       have h:=ho1
       clear ho1
       cases h
       refine .aH (fun _ _ hb=>hb) rfl (.cons (.agg rfl rfl ae rfl) (.cons (.tmp rfl) .nil)) (.refl _) trivial trivial
      ·replace h:=ab c25 h
       refine .ck rfl c25 ?_
       refine .skip (fun _ _ hs=>⟨(v21,v23),(Option.some.inj h).symm,hs.sub (.of rfl) (.of rfl) rfl rfl⟩)
   ·replace h:=ab c14 h
    refine .ck rfl c14 ?_
    obtain⟨⟨v26,v27,v28⟩,e29,h⟩:=bind_some h
    refine .al (.mv rfl<|.ah (yu e29) ⟨rfl,rfl,trivial⟩ trivial trivial<|.mv rfl<|.ext rfl rfl<|.ext rfl rfl<|.ext rfl rfl<|.aq rfl<|.aq rfl<|.aq rfl<|.nil) rfl ?_
    obtain⟨o30,hp31,h⟩:=bind_some h
    refine .cd (fun i=>o30=Ex.da i) (fun(i:Unit)=>[(2,D.ref 2 0),(4,D.bool v4),(6,aj v6),(10,bU v26),(11,bU v27)]) (fun(i:Unit)=>[(2,Hp.box 28 ([D.bool false,aj 0,aj 0]))]) ?_ ?_
    ·have ho2:=h
     clear h
     have h:=hp31
     clear hp31
     obtain⟨v32,e33,h⟩:=bind_some h
     by_cases c34:(!v32)=true
     ·replace h:=aa c34 h
      refine .al (.mv rfl<|.ah (m4 e33) ⟨rfl,trivial⟩ trivial trivial<|.not rfl<|.mv rfl<|.eQ rfl rfl rfl c34<|.eQ rfl rfl rfl c34<|.gU rfl rfl<|.gU rfl rfl<|.gU rfl rfl<|.eQ rfl rfl rfl c34<|.bn rfl c34 rfl<|.nil) rfl ?_
      refine .cj rfl rfl ?_
      refine .al (.nW ([D.bool false,aj 0,aj 0]) [] aJ cR trivial trivial ⟨.refl _,aU,aU,trivial⟩<|.cH ([D.bool false,aj 0,aj 0]) rfl rfl rfl ae rfl rfl rfl<|.aq rfl<|.nil) rfl ?_
      cases h
      have h:=ho2
      clear ho2
      cases h
      have h:=ho1
      clear ho1
      cases h
      refine .aH (fun _ _ hb=>hb) rfl (.cons (.agg rfl rfl ae rfl) (.cons (.tmp rfl) .nil)) (.refl _) trivial trivial
     ·replace h:=ab c34 h
      by_cases c35:v28=true
      ·replace h:=aa c35 h
       obtain⟨v36,e37,h⟩:=bind_some h
       refine .al (.mv rfl<|.ah (m4 e33) ⟨rfl,trivial⟩ trivial trivial<|.not rfl<|.mv rfl<|.dn rfl rfl rfl c34<|.mv rfl<|.dn rfl rfl rfl c34<|.mv rfl<|.aV rfl rfl rfl c35<|.mv rfl<|.aV rfl rfl rfl c35<|.ah (og e37) ⟨rfl,trivial⟩ trivial trivial<|.aV rfl rfl rfl c35<|.not rfl<|.dn rfl rfl rfl c34<|.bn rfl c35 rfl<|.bm rfl c34 rfl<|.nil) rfl ?_
       by_cases c38:(!v36)=true
       ·replace h:=aa c38 h
        refine .cj rfl c38 ?_
        refine .al (.nW ([D.bool false,aj 0,aj 0]) [] aJ cR trivial trivial ⟨.refl _,aU,aU,trivial⟩<|.cH ([D.bool false,aj 0,aj 0]) rfl rfl rfl ae rfl rfl rfl<|.aq rfl<|.nil) rfl ?_
        cases h
        have h:=ho2
        clear ho2
        cases h
        have h:=ho1
        clear ho1
        cases h
        refine .aH (fun _ _ hb=>hb) rfl (.cons (.agg rfl rfl ae rfl) (.cons (.tmp rfl) .nil)) (.refl _) trivial trivial
       ·replace h:=ab c38 h
        refine .ck rfl c38 ?_
        refine .skip (fun _ _ hs=>⟨(),(Option.some.inj h).symm,hs.sub (.of rfl) (.of rfl) rfl rfl⟩)
      ·replace h:=ab c35 h
       refine .al (.mv rfl<|.ah (m4 e33) ⟨rfl,trivial⟩ trivial trivial<|.not rfl<|.mv rfl<|.dn rfl rfl rfl c34<|.mv rfl<|.dn rfl rfl rfl c34<|.mv rfl<|.aT rfl rfl rfl c35<|.aT rfl rfl rfl c35<|.aT rfl rfl rfl c35<|.dn rfl rfl rfl c34<|.bm rfl c35 rfl<|.bm rfl c34 rfl<|.nil) rfl ?_
       refine .ck rfl (by decide) ?_
       refine .skip (fun _ _ hs=>⟨(),(Option.some.inj h).symm,hs.sub (.of rfl) (.of rfl) rfl rfl⟩)
    ·rintro⟨⟩ rfl
     try dsimp only
     obtain⟨k39,h⟩:=aw h
     obtain⟨v40,e41,h⟩:=bind_some h
     refine .al (.mv rfl<|.mv rfl<|.vF rfl rfl k39<|.ah (xD e41) ⟨rfl,trivial⟩ trivial trivial<|.aq rfl<|.nil) rfl ?_
     refine .al (.mv rfl<|.tY rfl ct<|.mv rfl<|.nil) rfl ?_
     obtain⟨o44,hl45,h⟩:=bind_some h
     have ho2:=h
     clear h
     refine .block (.b8 (fun(s:Nat×Int)=>[(2,D.ref 2 0),(4,D.bool v4),(5,aj v40),(6,aj s.1),(70,D.int .i64 (v27.length:Int)),(71,D.int .i64 s.2)]) (fun(s:Nat×Int)=>[(2,Hp.box 28 ([D.bool false,aj 0,aj 0]))]) hl45 (.of rfl) (.of rfl) rfl rfl ?_)
     rintro⟨v42,v43⟩ st46 hb47
     have h:g_ v27 v42 v43=some st46:=hb47
     clear hb47
     unfold g_ at h
     try dsimp only
     refine .al (.cm rfl rfl rfl<|.nil) rfl ?_
     refine .sq ?_
     by_cases c48:(decide (v43<(v27.length:Int)))=true
     ·replace h:=aa c48 h
      refine .cj rfl c48 ?_
      refine .skip (Ok.on ?_)
      refine .sq ?_
      refine .block ?_
      obtain⟨v49,e50,h⟩:=bind_some h
      obtain⟨v51,e52,h⟩:=bind_some h
      refine .region (.mv rfl<|.ah (sA e50) ⟨rfl,trivial⟩ trivial trivial<|.ah (so e52) ⟨rfl,rfl,trivial⟩ trivial trivial<|.aq rfl<|.nil) rfl (Ok.on ?_)
      refine .region (.ar rfl rfl rfl<|.mv rfl<|.nil) rfl (fun _ _ hs=>⟨(v51,(IntKind.i64.wrap (v43+1))),(Option.some.inj h).symm,hs.sub (.of rfl) (.of rfl) rfl rfl⟩)
     ·replace h:=ab c48 h
      refine .ck rfl c48 ?_
      refine .exit (fun a w hs=>⟨_,(Option.some.inj h).symm,fun e=>by subst e;have h:=ho2;exact aZ (⟨(v40,v42),(Option.some.inj h).symm,hs.sub (.of rfl) (.of rfl) rfl rfl⟩)⟩)
  ·rintro⟨v58,v59⟩ rfl
   try dsimp only
   obtain⟨⟨v60,v61⟩,e62,h⟩:=bind_some h
   obtain⟨⟨⟨v63,v64⟩,v65⟩,e66,h⟩:=bind_some h
   refine .al (.mv rfl<|.mv rfl<|.ah (dV e62) ⟨rfl,rfl,trivial⟩ trivial trivial<|.mv rfl<|.ah (j3 e66) ⟨rfl,rfl,trivial⟩ trivial trivial<|.cH ([D.bool v63,aj v64,aj v65]) rfl rfl rfl ae rfl rfl rfl<|.aq rfl<|.nil) rfl ?_
   cases h
   refine .aH (fun _ _ hb=>hb) rfl (.cons (.agg rfl rfl ae rfl) (.cons (.tmp rfl) .nil)) (.refl _) trivial trivial
end
end Go.Am
namespace Go.Am
open Go.RowKit
def wv(s:List UInt8):Bool:= !s.isEmpty&&s.all fun b=>decide (48<=b.toNat)&&decide (b.toNat<=57)
def sD(s:List UInt8):Bool:=wv s&&(s==[48]|| !(s.head?==some 48))
def iW(c:UInt8):List UInt8->List UInt8×List UInt8×Bool
 |[]=>([],[],false)
 |b::l=>if b=c then([],l,true)else(b::(iW c l).1,(iW c l).2.1,(iW c l).2.2)
theorem si{s:List UInt8}(h:wv s=true):sw s/\s≠[]:=by
 unfold wv at h
 rw[Bool.and_eq_true]at h
 refine⟨fun b hb=>?_,fun e=>by rw[e]at h;simp at h⟩
 have:=List.all_eq_true.1 h.2 b hb
 simp only[Bool.and_eq_true,decide_eq_true_eq]at this
 exact this
theorem rN(c:UInt8):∀l,(iW c l).1.length+(iW c l).2.1.length<=l.length
 |[]=>Nat.le_refl _
 |b::l=>by
  have:=rN c l
  unfold iW
  split
  ·simp only[List.length_nil,List.length_cons];omega
  ·simp only[List.length_cons];omega
theorem vg(c:UInt8):∀l,(iW c l).2.2=false->iW c l=(l,[],false)
 |[],_=>rfl
 |b::l,h=>by
  unfold iW at h|-
  by_cases e:b=c
  ·rw[if_pos e]at h;cases h
  ·rw[if_neg e]at h|-
   rw[vg c l h]
theorem dropWhile_nil{α:Type}(p:α->Bool):∀(l:List α),l.dropWhile p=[]↔∀x∈l,p x=true
 |[]=>by simp
 |a::l=>by
  by_cases h:p a=true
  ·rw[List.dropWhile_cons_of_pos h,dropWhile_nil p l];simp[h]
  ·rw[List.dropWhile_cons_of_neg h];simp[h]
theorem mD{α:Type}(p:α->Bool):∀(l:List α) (x:α) (m:List α),l.dropWhile p=x::m->¬p x=true
 |[],x,m,h=>by cases h
 |a::l,x,m,h=>by
  by_cases hp:p a=true
  ·rw[List.dropWhile_cons_of_pos hp]at h;exact mD p l x m h
  ·rw[List.dropWhile_cons_of_neg hp]at h;injection h with h1 h2;subst h1;exact hp
theorem yI(l cs:List UInt8):Lib.trimS l cs=[]↔∀b∈l,cs.contains b=true:=by
 unfold Lib.trimS Lib.trimLeftS Lib.trimRightS
 rw[dropWhile_nil]
 have hr:=dropWhile_nil (cs.contains ·) l.reverse
 constructor
 ·intro h
  cases e:l.reverse.dropWhile (cs.contains ·)with
  |nil=>
   rw[e]at hr
   intro b hb
   exact hr.1 rfl b (List.mem_reverse.2 hb)
  |cons x m=>
   exfalso
   refine mD _ _ _ _ e (h x ?_)
   rw[e];simp
 ·intro h
  have:l.reverse.dropWhile (cs.contains ·)=[]:=hr.2 fun b hb=>h b (List.mem_reverse.1 hb)
  rw[this];simp
theorem AF(b:UInt8):([48,49,50,51,52,53,54,55,56,57]:List UInt8).contains b=(decide (48<=b.toNat)&&decide (b.toNat<=57)):=by
 have key:∀n:Nat,n<256->([48,49,50,51,52,53,54,55,56,57]:List UInt8).contains (UInt8.ofNat n)=(decide (48<=n)&&decide (n<=57)):=by decide+kernel
 have:=key b.toNat b.toNat_lt
 rw[UInt8.ofNat_toNat]at this
 exact this
theorem ta(s:List UInt8)(hl:s.length<=1000000):kb s=some (wv s):=by
 unfold kb wv
 cases s with
 |nil=>rfl
 |cons a t=>
  have h1:(!((a::t)==([]:List UInt8)))=true:=rfl
  rw[if_pos h1]
  have h2:xl (a::t) ([48,49,50,51,52,53,54,55,56,57]:List UInt8)=some (Lib.trimS (a::t) [48,49,50,51,52,53,54,55,56,57]):=bY ⟨by omega,by decide,by decide⟩ rfl
  rw[h2,Option.bind_some]
  congr 1
  have h3:=yI (a::t) [48,49,50,51,52,53,54,55,56,57]
  simp only[AF]at h3
  have h4:(!(a::t).isEmpty)=true:=rfl
  rw[h4,Bool.true_and]
  by_cases e:Lib.trimS (a::t) [48,49,50,51,52,53,54,55,56,57]=[]
  ·rw[e,List.all_eq_true.2 (h3.1 e)];rfl
  ·have h5:((a::t).all fun b=>decide (48<=b.toNat)&&decide (b.toNat<=57))=false:=by
    apply Bool.eq_false_iff.2
    intro h;exact e (h3.2 (List.all_eq_true.1 h))
   rw[h5,beq_eq_false_iff_ne];exact e
theorem q_(s:List UInt8)(hl:s.length<=1000000):je s=some (sD s):=by
 unfold je sD
 rw[ta s hl,Option.bind_some]
 by_cases hd:wv s=true
 ·rw[if_pos hd,hd,Bool.true_and]
  by_cases h0:(s==([48]:List UInt8))=true
  ·rw[if_pos h0,h0];rfl
  ·rw[if_neg h0]
   have h0':(s==([48]:List UInt8))=false:=by simpa using h0
   rw[h0',Bool.false_or]
   obtain⟨_,hne⟩:=si hd
   cases s with
   |nil=>exact absurd rfl hne
   |cons a t=>
    have:ix (a::t) 0=some a:=rfl
    rw[this,Option.bind_some,List.head?_cons]
    congr 1
    by_cases e:a=48
    ·subst e;rfl
    ·have h1:((a.toNat:Int) !=48)=true:=by
      rw[bne_iff_ne]
      intro h
      apply e
      apply UInt8.toNat_inj.1
      rw[show(48:UInt8).toNat=48 from rfl];omega
     have h2:((some a==some (48:UInt8)))=false:=by
      rw[beq_eq_false_iff_ne];intro h;injection h with h;exact e h
     rw[h1,h2];rfl
 ·rw[if_neg hd]
  have:wv s=false:=by simpa using hd
  rw[this];rfl
theorem yy(c:UInt8):∀l,(iW c l=if Lib.indexByte l c=-1 then(l,[],false)else(l.take (Lib.indexByte l c).toNat,l.drop ((Lib.indexByte l c).toNat+1),true))/\-1<=Lib.indexByte l c/\Lib.indexByte l c<(l.length:Int)
 |[]=>by simp[iW,Lib.indexByte]
 |b::l=>by
  obtain⟨h1,h2,h3⟩:=yy c l
  have hv:Lib.indexByte (b::l) c=if b==c then 0 else if Lib.indexByte l c==-1 then-1 else Lib.indexByte l c+1:=rfl
  rw[hv]
  unfold iW
  by_cases e:b=c
  ·have e':(b==c)=true:=by simpa using e
   rw[if_pos e,if_pos e']
   refine⟨?_,by omega,by simp only[List.length_cons];omega⟩
   rw[if_neg (by decide)];rfl
  ·have e':¬(b==c)=true:=by simpa using e
   rw[if_neg e,if_neg e',h1]
   by_cases h0:Lib.indexByte l c=-1
   ·have h0':(Lib.indexByte l c==-1)=true:=by simpa using h0
    rw[if_pos h0',if_pos h0,if_pos rfl]
    exact⟨rfl,by omega,by simp only[List.length_cons];omega⟩
   ·have h0':¬(Lib.indexByte l c==-1)=true:=by simpa using h0
    rw[if_neg h0',if_neg h0,if_neg (by omega)]
    have h4:(Lib.indexByte l c+1).toNat=(Lib.indexByte l c).toNat+1:=by omega
    refine⟨?_,by omega,by simp only[List.length_cons];omega⟩
    rw[h4];rfl
theorem BC(s:List UInt8)(c:UInt8)(hl:s.length<=1000000):ks s [c]=some (iW c s):=by
 obtain⟨h1,h2,h3⟩:=yy c s
 unfold ks n9
 have hx:uD s [c]=some (Lib.indexByte s c):=bY rfl rfl
 rw[hx,h1]
 simp only[Option.bind_some]
 by_cases h0:Lib.indexByte s c=-1
 ·rw[if_neg (by rw[h0];decide),if_pos h0];rfl
 ·rw[if_pos (decide_eq_true (by omega)),if_neg h0]
  have e:IntKind.i64.wrap (Lib.indexByte s c+(([c]:List UInt8).length:Int))=Lib.indexByte s c+1:=i64_in (by simp only[List.length_cons,List.length_nil];omega)
  rw[e,aQ (by omega),aQ (by omega)]
  have h4:(Lib.indexByte s c+1).toNat=(Lib.indexByte s c).toNat+1:=by omega
  rw[h4];rfl
theorem vB(s:List UInt8)(hl:s.length<=1000000):gD s [45]=some (if s.head?=some 45 then(s.drop 1,true)else(s,false)):=by
 unfold gD iM ik
 cases s with
 |nil=>rfl
 |cons a t=>
  rw[if_pos (decide_eq_true (by simp only[List.length_cons,List.length_nil];omega)),aQ (by simp only[List.length_cons,List.length_nil];omega)]
  simp only[Option.bind_some]
  have h1:(List.take ((([45]:List UInt8).length:Nat):Int).toNat (a::t)==([45]:List UInt8))=(a==45):=by
   show([a]==[45])=(a==45)
   by_cases e:a=45
   ·subst e;rfl
   ·have h2:(a==45)=false:=by simpa using e
    rw[h2,beq_eq_false_iff_ne];intro h;injection h with h;exact e h
  rw[h1]
  by_cases e:a=45
  ·subst e
   rw[if_neg (by decide),aQ (by simp only[List.length_cons,List.length_nil];omega),if_pos (show(45::t).head?=some 45 from rfl)];rfl
  ·have h2:(a==45)=false:=by simpa using e
   have h3:¬(a::t).head?=some 45:=by intro h;injection h with h;exact e h
   rw[h2,if_neg h3];rfl
def rZ(neg:Bool)(t:List UInt8):Rat×Int:=
 if(iW 47 t).2.2 then
  if !sD (iW 47 t).1 then(0,4)else if !sD (iW 47 t).2.1 then(0,4)else if jI (iW 47 t).2.1=0 then(0,9)else(mkRat (sg neg (jI (iW 47 t).1)) (jI (iW 47 t).2.1),0)
 else if !sD (iW 46 t).1 then(0,4)else if(iW 46 t).2.2&& !wv (iW 46 t).2.1 then(0,4)
 else(mkRat (sg neg (jI ((iW 46 t).1++(iW 46 t).2.1))) (10^(iW 46 t).2.1.length),0)
def uL(s:List UInt8):Rat×Int:=if 1000<s.length then(0,5)else if s.head?=some 45 then rZ true (s.drop 1)else rZ false s
theorem x9(a:List UInt8)(hl:a.length<=1000):Loop (fun(s:Nat×Int)=>g_ a s.1 s.2) (1,0)=some (10^a.length):=by
 have hb:∀i,i<=1000->sm (10^i):=by
  intro i hi
  have h1:10^i<2^(4*i+1):=Nat.lt_of_le_of_lt (Nat.pow_le_pow_left (show 10<=16 by decide) i) (by rw[show(16:Nat)=2^4 from rfl,←Nat.pow_mul];exact Nat.pow_lt_pow_right (by decide) (by omega))
  exact fL (fY.2 h1) (by omega)
 obtain⟨r,hr,rfl⟩:=bI (body:=fun(s:Nat×Int)=>g_ a s.1 s.2) (1,0) (fun s=>∃i:Nat,i<=a.length/\s=(10^i,(i:Int))) (fun s=>(a.length-s.2).toNat) (fun r=>r=10^a.length) ⟨0,Nat.zero_le _,rfl⟩ (by
  rintro s ⟨i,hi,rfl⟩
  simp only
  unfold g_
  by_cases h:i<a.length
  ·left
   have e10:lN (10:Int)=some 10:=jK (n:=10) (by omega)
   rw[if_pos (decide_eq_true (by omega)),e10,Option.bind_some,jZ (hb i (by omega)) (iA (by decide)),Option.bind_some]
   have e4:IntKind.i64.wrap ((i:Int)+1)=((i+1:Nat):Int):=by rw[i64_in (by omega)];omega
   rw[e4]
   exact⟨_,rfl,⟨i+1,h,by rw[Nat.pow_succ]⟩,by simp only;omega⟩
  ·right
   rw[if_neg (by simp;omega)]
   exact⟨_,rfl,by rw[show i=a.length from by omega]⟩)
 exact hr
theorem mS{s:List UInt8}(h:wv s=true)(hl:s.length<=1000):mE s=some (jI s):=bY ⟨by omega,(si h).1⟩ rfl
theorem n_{s:List UInt8}(h:wv s=true)(hl:s.length<=2000):sm (jI s):=fL (CD (si h).1 (by omega)) (by omega)
theorem AS{n:Nat}(h:n<=1000):sm (10^n):=by
 have h1:10^n<2^(4*n+1):=Nat.lt_of_le_of_lt (Nat.pow_le_pow_left (show 10<=16 by decide) n) (by rw[show(16:Nat)=2^4 from rfl,←Nat.pow_mul];exact Nat.pow_lt_pow_right (by decide) (by omega))
 exact fL (fY.2 h1) (by omega)
theorem sf{s:List UInt8}(h:sD s=true):wv s=true:=by unfold sD at h;rw[Bool.and_eq_true]at h;exact h.1
theorem xe{a b:List UInt8}(h:wv a=true)(k:wv b=true):wv (a++b)=true:=by
 unfold wv at*
 rw[Bool.and_eq_true]at*
 refine⟨?_,by rw[List.all_append,h.2,k.2];rfl⟩
 cases a with
 |nil=>simp at h
 |cons x l=>rfl
theorem wT(neg:Bool)(n d:Nat)(hd:d≠0)(hn:sm n)(hs:sm d):((cu neg n).bind fun(v60,v61)=>(ec v60 v61 d).bind fun((v63,v64),v65)=>some (((v63,v64),v65),(0:Int)))=some (rp (mkRat (sg neg n) d),0):=by
 rw[du,Option.bind_some]
 dsimp only
 rw[jo _ _ hd (by rw[mu];exact hn) hs];rfl
theorem tD(neg:Bool)(t:List UInt8)(hl:t.length<=1000):
  ((ks t ([47]:List UInt8)).bind fun(v10,v11,v12)=>(if v12=true then(je v10).bind fun v15=>(if(!v15)=true then some (Ex.ret (((false,0),0),4))else(je v11).bind fun v18=>(if(!v18)=true then some (Ex.ret (((false,0),0),4))else(mE v10).bind fun v21=>(mE v11).bind fun v23=>(if(((aD v23).length:Int)==0)=true then some (Ex.ret (((false,0),0),9))else some (Ex.da (v21,v23)))))else(ks t ([46]:List UInt8)).bind fun(v26,v27,v28)=>((je v26).bind fun v32=>(if(!v32)=true then some (Ex.ret (((false,0),0),4))else(if v28=true then(kb v27).bind fun v36=>(if(!v36)=true then some (Ex.ret (((false,0),0),4))else some (Ex.da ()))else some (Ex.da ())))).bind fun o30=>(match o30 with|Ex.da ()=>bZ (v26.length+v27.length<=9223372036854775807) ((mE (v26++v27)).bind fun v40=>(Loop (fun(s:Nat×Int)=>g_ v27 s.1 s.2) (1,0)).bind fun v53=>some (Ex.da (v40,v53)))|Ex.ret (((r54,r55),r56),r57)=>some (Ex.ret (((r54,r55),r56),r57)))):Option (Ex (Nat×Nat) (((Bool×Nat)×Nat)×Nat))).bind (fun o8=>(match o8 with|Ex.da (v58,v59)=>(cu neg v58).bind fun(v60,v61)=>(ec v60 v61 v59).bind fun((v63,v64),v65)=>some (((v63,v64),v65),(0:Int))|Ex.ret (((r67,r68),r69),r70)=>some (((r67,r68),r69),(r70:Int))))
  =some (rp (rZ neg t).1,(rZ neg t).2):=by
 have c1:=rN 47 t
 have c2:=rN 46 t
 have hn46:=vg 46 t
 rw[BC t 47 (by omega),BC t 46 (by omega)]
 unfold rZ
 generalize iW 47 t=A at*
 generalize iW 46 t=B at*
 obtain⟨b,a,f⟩:=A
 obtain⟨b',a',f'⟩:=B
 simp only at c1 c2 hn46
 simp only[Option.bind_some]
 cases f
 ·simp only[Option.bind_some,Bool.false_eq_true,if_false,if_true,Bool.not_true,Bool.not_false,Bool.false_and,Bool.true_and]
  rw[q_ _ (by omega),ta _ (by omega)]
  cases h1:sD b'
  ·simp only[Option.bind_some,Bool.false_eq_true,if_false,if_true,Bool.not_true,Bool.not_false,Bool.false_and,Bool.true_and];rfl
  ·have d1:=sf h1
   cases f'
   ·have hn:=hn46 rfl
    injection hn with e1 hn
    injection hn with e2 _
    subst e1;subst e2
    simp only[Option.bind_some,Bool.false_eq_true,if_false,if_true,Bool.not_true,Bool.not_false,Bool.false_and,Bool.true_and]
    rw[aQ (by simp only[List.length_nil];omega),mS (by rw[List.append_nil];exact d1) (by rw[List.append_nil];exact hl),Option.bind_some,x9 _ (by decide),Option.bind_some,Option.bind_some]
    dsimp only
    have hfin:=wT neg (jI (b'++[])) (10^([]:List UInt8).length) (by decide) (n_ (by rw[List.append_nil];exact d1) (by rw[List.append_nil];omega)) (AS (by decide))
    exact hfin
   ·cases h3:wv a'
    ·simp only[Option.bind_some,Bool.false_eq_true,if_false,if_true,Bool.not_true,Bool.not_false,Bool.false_and,Bool.true_and];rfl
    ·simp only[Option.bind_some,Bool.false_eq_true,if_false,if_true,Bool.not_true,Bool.not_false,Bool.false_and,Bool.true_and]
     have d2:=xe d1 h3
     have hl2:(b'++a').length<=1000:=by rw[List.length_append];omega
     rw[aQ (by omega),mS d2 hl2,Option.bind_some,x9 _ (by omega),Option.bind_some,Option.bind_some]
     dsimp only
     have hfin:=wT neg (jI (b'++a')) (10^a'.length) (Nat.pos_iff_ne_zero.1 (Nat.pow_pos (by decide))) (n_ d2 (by omega)) (AS (by omega))
     exact hfin
 ·simp only[Option.bind_some,Bool.false_eq_true,if_false,if_true,Bool.not_true,Bool.not_false,Bool.false_and,Bool.true_and]
  rw[q_ _ (by omega),q_ _ (by omega)]
  cases h1:sD b
  ·simp only[Option.bind_some,Bool.false_eq_true,if_false,if_true,Bool.not_true,Bool.not_false,Bool.false_and,Bool.true_and];rfl
  ·cases h2:sD a
   ·simp only[Option.bind_some,Bool.false_eq_true,if_false,if_true,Bool.not_true,Bool.not_false,Bool.false_and,Bool.true_and];rfl
   ·have d1:=sf h1
    have d2:=sf h2
    simp only[Option.bind_some,Bool.false_eq_true,if_false,if_true,Bool.not_true,Bool.not_false,Bool.false_and,Bool.true_and]
    rw[mS d1 (by omega),mS d2 (by omega)]
    simp only[Option.bind_some,Bool.false_eq_true,if_false,if_true,Bool.not_true,Bool.not_false,Bool.false_and,Bool.true_and]
    rw[oA]
    by_cases h0:jI a=0
    ·rw[if_pos (decide_eq_true h0),if_pos h0];rfl
    ·rw[if_neg (by simpa using h0),if_neg h0]
     have hfin:=wT neg _ _ h0 (n_ d1 (by omega)) (n_ d2 (by omega))
     exact hfin
theorem BF(s:List UInt8)(hs:s.length<=9223372036854775807):qP s=some (rp (uL s).1,(uL s).2):=by
 unfold qP uL
 by_cases h:1000<s.length
 ·rw[if_pos (decide_eq_true (by omega)),if_pos h];rfl
 ·rw[if_neg (by simp;omega),if_neg h,vB s (by omega),B7]
  by_cases hm:s.head?=some 45
  ·rw[if_pos hm,if_pos hm]
   simp only[Option.bind_some]
   exact tD true (s.drop 1) (by rw[List.length_drop];omega)
  ·rw[if_neg hm,if_neg hm]
   simp only[Option.bind_some]
   exact tD false s (by omega)
def qd(s:List UInt8):Option (Rat×Int):=bZ (s.length<=9223372036854775807) (some (uL s))
theorem uv{a1:List UInt8}{r2:Rat}{r3:Int}(h:qd a1=some (r2,r3)):aS PP 23 [] [bU a1] [] (D.iC [qD r2,D.int .i64 r3]):=by
 obtain⟨h0,h⟩:=aw h
 have e:=BF a1 h0
 injection h with h
 rw[h]at e
 exact B_ e
end Go.Am
namespace Go.Am
open Go.RowKit
end Go.Am
namespace Go.Am
open Go.RowKit
set_option maxRecDepth 100000
noncomputable section
def l5(a1:Rat)(a2:Rat)(a3:Rat):Option Rat:=(ky a2 a1).bind fun v4=>(yB v4).bind fun v6=>(ky a3 a1).bind fun v8=>(yB v8).bind fun v10=>(mF v6 v10).bind fun v12=>((if(v12==0)=true then(rR a2).bind fun v17=>(rR a3).bind fun v19=>(mF v17 v19).bind fun v21=>some (v21)else some (v12))).bind fun v23=>((if(decide (v23<0))=true then some (Ex.ret a2)else(if(v23==0)=true then(mF a2 a3).bind fun v28=>(if(decide (v28<0))=true then some (Ex.ret a2)else some (Ex.da ()))else some (Ex.da ())))).bind fun o24=>(match o24 with|Ex.da ()=>some a3|Ex.ret r31=>some r31)
theorem Bu{a1:Rat}{a2:Rat}{a3:Rat}{r32:Rat}(h:l5 a1 a2 a3=some r32):aS PP 165 [] [qD a1,qD a2,qD a3] [] (qD r32):=by
 unfold l5 at h
 refine .of Go.Proofs.Tryz.func165 rfl (by kernel_rfl) rfl rfl rfl rfl rfl rfl (fun A w0 L b=>?_)
 show Ok PP _ [(0,qD a1),(1,qD a2),(2,qD a3)] [] _ _
 refine .al (.ie rfl rfl<|.ie rfl rfl<|.ie rfl rfl<|.gd (qC (0)) aJ ⟨nr,nT,nS,trivial⟩ rfl<|.nil) rfl ?_
 obtain⟨v4,e5,h⟩:=bind_some h
 obtain⟨v6,e7,h⟩:=bind_some h
 obtain⟨v8,e9,h⟩:=bind_some h
 obtain⟨v10,e11,h⟩:=bind_some h
 obtain⟨v12,e13,h⟩:=bind_some h
 refine .dc cg (.b_ (qC (a2)) rfl rfl ae rfl rfl<|.b_ (qC (a1)) rfl rfl ae rfl rfl<|.ah (sN e5) ⟨rfl,rfl,trivial⟩ trivial trivial<|.ah (DX e7) ⟨rfl,trivial⟩ trivial trivial<|.b_ (qC (a3)) rfl rfl ae rfl rfl<|.b_ (qC (a1)) rfl rfl ae rfl rfl<|.ah (sN e9) ⟨rfl,rfl,trivial⟩ trivial trivial<|.ah (DX e11) ⟨rfl,trivial⟩ trivial trivial<|.ah (ve e13) ⟨rfl,rfl,trivial⟩ trivial trivial<|.aq rfl<|.nil) rfl (by kernel_rfl) ?_
 obtain⟨v23,hp15,h⟩:=bind_some h
 refine .cd (fun i=>v23=i) (fun(i:Int)=>[(4,D.ref 4 0),(5,D.ref 5 0),(6,D.ref 6 0),(7,D.int .i64 i)]) (fun(i:Int)=>[(4,Hp.box 28 (qC (a2))),(5,Hp.box 28 (qC (a3))),(6,Hp.box 28 (qC (0)))]) ?_ ?_
 ·have ho1:=h
  clear h
  have h:=hp15
  clear hp15
  refine .al (.mv rfl<|.cm rfl rfl rfl<|.nil) rfl ?_
  by_cases c16:(v12==0)=true
  ·replace h:=aa c16 h
   refine .cj rfl c16 ?_
   obtain⟨v17,e18,h⟩:=bind_some h
   obtain⟨v19,e20,h⟩:=bind_some h
   obtain⟨v21,e22,h⟩:=bind_some h
   refine .c_ cg (.b_ (qC (a2)) rfl rfl ae rfl rfl<|.ah (Aa e18) ⟨rfl,trivial⟩ trivial trivial<|.b_ (qC (a3)) rfl rfl ae rfl rfl<|.ah (Aa e20) ⟨rfl,trivial⟩ trivial trivial<|.ah (ve e22) ⟨rfl,rfl,trivial⟩ trivial trivial<|.aq rfl<|.nil) rfl (by kernel_rfl) (fun _ _ hs=>⟨v21,(Option.some.inj h).symm,hs.sub (.of rfl) (.of rfl) rfl rfl⟩)
  ·replace h:=ab c16 h
   refine .ck rfl c16 ?_
   refine .skip (fun _ _ hs=>⟨v12,(Option.some.inj h).symm,hs.sub (.of rfl) (.of rfl) rfl rfl⟩)
 ·rintro _ rfl
  try dsimp only
  obtain⟨o24,hp25,h⟩:=bind_some h
  refine .cd (fun i=>o24=Ex.da i) (fun(i:Unit)=>[(5,D.ref 5 0),(6,D.ref 6 0)]) (fun(i:Unit)=>[(5,Hp.box 28 (qC (a3))),(6,Hp.box 28 (qC (0)))]) ?_ ?_
  ·have ho1:=h
   clear h
   have h:=hp25
   clear hp25
   by_cases c26:(decide (v23<0))=true
   ·replace h:=aa c26 h
    refine .al (.mv rfl<|.cm rfl rfl rfl<|.mv rfl<|.eQ rfl rfl rfl c26<|.eQ rfl rfl rfl c26<|.eQ rfl rfl rfl c26<|.gU rfl rfl<|.gU rfl rfl<|.gU rfl rfl<|.gU rfl rfl<|.eQ rfl rfl rfl c26<|.bn rfl c26 rfl<|.nil) rfl ?_
    refine .cj rfl rfl ?_
    refine .al (.b_ (qC (a2)) rfl rfl ae rfl rfl<|.cH (qC (a2)) rfl rfl rfl ae rfl rfl rfl<|.nil) rfl ?_
    cases h
    have h:=ho1
    clear ho1
    cases h
    refine .aH (fun _ _ hb=>hb) rfl (.cons (.agg rfl rfl ae rfl) .nil) (.refl _) trivial trivial
   ·replace h:=ab c26 h
    by_cases c27:(v23==0)=true
    ·replace h:=aa c27 h
     obtain⟨v28,e29,h⟩:=bind_some h
     refine .al (.mv rfl<|.cm rfl rfl rfl<|.mv rfl<|.dn rfl rfl rfl c26<|.mv rfl<|.dn rfl rfl rfl c26<|.cm rfl rfl rfl<|.dn rfl rfl rfl c26<|.mv rfl<|.aV rfl rfl rfl c27<|.b_ (qC (a2)) rfl rfl ae rfl rfl<|.aV rfl rfl rfl c27<|.b_ (qC (a3)) rfl rfl ae rfl rfl<|.aV rfl rfl rfl c27<|.ah (ve e29) ⟨rfl,rfl,trivial⟩ trivial trivial<|.aV rfl rfl rfl c27<|.cm rfl rfl rfl<|.dn rfl rfl rfl c26<|.bn rfl c27 rfl<|.bm rfl c26 rfl<|.nil) rfl ?_
     by_cases c30:(decide (v28<0))=true
     ·replace h:=aa c30 h
      refine .cj rfl c30 ?_
      refine .al (.b_ (qC (a2)) rfl rfl ae rfl rfl<|.cH (qC (a2)) rfl rfl rfl ae rfl rfl rfl<|.nil) rfl ?_
      cases h
      have h:=ho1
      clear ho1
      cases h
      refine .aH (fun _ _ hb=>hb) rfl (.cons (.agg rfl rfl ae rfl) .nil) (.refl _) trivial trivial
     ·replace h:=ab c30 h
      refine .ck rfl c30 ?_
      refine .skip (fun _ _ hs=>⟨(),(Option.some.inj h).symm,hs.sub (.of rfl) (.of rfl) rfl rfl⟩)
    ·replace h:=ab c27 h
     refine .al (.mv rfl<|.cm rfl rfl rfl<|.mv rfl<|.dn rfl rfl rfl c26<|.mv rfl<|.dn rfl rfl rfl c26<|.cm rfl rfl rfl<|.dn rfl rfl rfl c26<|.mv rfl<|.aT rfl rfl rfl c27<|.aT rfl rfl rfl c27<|.aT rfl rfl rfl c27<|.aT rfl rfl rfl c27<|.dn rfl rfl rfl c26<|.bm rfl c27 rfl<|.bm rfl c26 rfl<|.nil) rfl ?_
     refine .ck rfl (by decide) ?_
     refine .skip (fun _ _ hs=>⟨(),(Option.some.inj h).symm,hs.sub (.of rfl) (.of rfl) rfl rfl⟩)
  ·rintro⟨⟩ rfl
   try dsimp only
   refine .al (.b_ (qC (a3)) rfl rfl ae rfl rfl<|.cH (qC (a3)) rfl rfl rfl ae rfl rfl rfl<|.nil) rfl ?_
   cases h
   refine .aH (fun _ _ hb=>hb) rfl (.cons (.agg rfl rfl ae rfl) .nil) (.refl _) trivial trivial
end
end Go.Am
namespace Go.Am
abbrev FR(l:Nat):Fence:=Fence.wide.inRound l
theorem Cd(P:Program)(l:Nat)(m:Machine):m.fenced P (FR l):=by
 have:=fenced_wide P m
 exact this
theorem q6{P:Program}{l:Nat}{m m':Machine}:StepsIn (Machine.fenced P (FR l)) P m m'↔Steps P m m':=
 ⟨StepsIn.steps,fun h=>(StepsIn.of_steps h).mono fun m _=>Cd P l m⟩
theorem BQ{P:Program}{l:Nat}{m m':Machine}{e:Ending}:ComesIn (Machine.fenced P (FR l)) P m m' e↔Comes P m m' e:=by
 cases e with
 |returned v=>exact q6
 |panicked chain=>exact q6
 |outgrown=>exact Iff.rfl
theorem B2{l n:Nat}{P:Program}{f:FuncId}{args:Array Value}{w:World}{R:Ending->World->Prop}(h:Calls P f args w R):CallsIn (FR l) n P f args w R:=
 ⟨trivial,fun cs _=>let⟨e,w',fr,r,s,x⟩:=h cs;⟨e,w',fr,r,BQ.2 s,x⟩⟩
theorem CQ{l n:Nat}{P:Program}{row:String}{args:Array Value}{w:World}{R:Value->World->Prop}(h:Rows P row args w R):RowsIn (FR l) n P row args w R:=
 fun c cs _=>let⟨v,w',r,s⟩:=h c cs;⟨v,w',r,q6.2 s⟩
theorem Dy{P:Program}{l n:Nat}{o:Oper}{a:Act}{next next':Act->World->Prop}{Q:Exit->Act->World->Prop}(hn:∀a w,next a w->next' a w):∀{r:Result Next},o.upon P a next Q r->o.uponIn (FR l) n P a next' Q r
 |.ok (.value v) w',h=>hn _ _ h
 |.ok .skip w',h=>hn _ _ h
 |.ok (.defer d) w',h=>hn _ _ h
 |.ok (.enter f args) w',h=>⟨fun hd=>(by simp[FR,Fence.wide]at hd),B2 (Calls.mono h fun e w'' hr=>by
   cases e with
   |returned v=>exact hn _ _ hr
   |panicked chain=>exact hr
   |outgrown=>exact hr)⟩
 |.ok (.row row args) w',h=>⟨fun hd=>(by simp[FR,Fence.wide]at hd),CQ (Rows.mono h fun v w'' hr=>hn _ _ hr)⟩
 |.halt (.panic v) w',h=>h
 |.ok (.round ..) _,h=>h.elim
theorem su{P:Program}{l n:Nat}{ops:Array Oper}{Q:Exit->Act->World->Prop}(hQ:¬LetsOut Q)(hd:∀(i:Nat) (o:Oper),ops[i]?=some o->∀c,o.op≠.defer c):∀(is:List Nat) (a:Act) (w:World),wpOps P ops Q is a w->wpOpsIn (FR l) n P ops Q is a w
 |[],a,w,h=>h
 |i::rest,a,w,h=>by
  unfold wpOps at h
  unfold wpOpsIn
  cases ho:ops[i]?with
  |none=>rw[ho]at h;exact su hQ hd rest a w h
  |some o=>
   rw[ho]at h
   simp only at h|-
   split
   ·rename_i hw
    rw[if_pos hw]at h
    rcases h with h|h
    ·refine⟨fun _ _=>trivial,?_⟩
     rw[Oper.semAt_eq _ _ _ (hd i o ho)]
     exact Dy (fun a w hk=>su hQ hd rest a w hk) h
    ·exact absurd h.2 hQ
   ·rename_i hw
    rw[if_neg hw]at h
    exact⟨fun _ _=>trivial,su hQ hd rest _ w h⟩
def iG(l:List Oper):Bool:=l.all fun o=>match o.op with|.defer _=>false|_=>true
theorem mz{l:List Oper}(h:iG l=true)(i:Nat)(o:Oper)(ho:l.toArray[i]?=some o):∀c,o.op≠.defer c:=by
 intro c hc
 have hm:o∈l:=by rw[List.getElem?_toArray]at ho;exact List.mem_of_getElem? ho
 have:=List.all_eq_true.1 h o hm
 rw[hc]at this
 cases this
def kI(P:Program)(c:Ctx)(T:List (Nat×D))(H:List (Nat×Hp))(x:Code)(Q:Exit->Act->World->Prop):Prop:=
 ∀l n a w,Sat c (aP T) (ai H) a w->x.wpIn (FR l) n P Q a w
section
variable {P:Program} {c:Ctx} {T T':List (Nat×D)} {H H':List (Nat×Hp)} {Q:Exit->Act->World->Prop} {x y:Code} {id:Nat} {sps:List Spec}
theorem kI.region{l:List Oper}(hL:¬LetsOut Q)(hn:iG l=true)(h:an P l.toArray c l T H sps T' H')(hd:eP c.n l=true)(hQ:∀a w,Sat c (aP T') (ai H') a w->Q .normal a w):kI P c T H (.region id l.toArray false) Q:=by
 intro k n a w hs
 refine wpIn_region (su hL (mz hn) _ a w ?_)
 have h1:=h.wp hd hQ a w hs
 have h2:=wpOps_eq_wpList (P:=P) (ops:=l.toArray) (Q:=Q) l 0 (by simp)
 rw[List.range_eq_range',show l.toArray.size=l.length from by simp,h2]
 exact h1
theorem kI.c_{l:List Oper}(hL:¬LetsOut Q)(hn:iG l=true)(hm:P.follows .mixedOrders=true)(h:an P l.toArray c l T H sps T' H')(hd:eP c.n l=true)(hord:mm [] [] 0 (l.zip sps)=true)(hQ:∀a w,Sat c (aP T') (ai H') a w->Q .normal a w):kI P c T H (.region id l.toArray true) Q:=by
 intro k n a w hs
 refine wpIn_region_draw fun t=>su hL (mz hn) _ a _ ?_
 simp only[Region.schedule,hm,Bool.true_or,if_true]
 exact wpAny_sound l.toArray.size t _ a _ (h.rk hd hord hQ a w hs)
theorem tT{K:Act->World->Prop}(h:¬LetsOut Q):¬LetsOut (Exit.then K Q):=h
theorem kI.seq{K:Act->World->Prop}(h:kI P c T H x (Exit.then K Q))(hy:∀l n a w,K a w->y.wpIn (FR l) n P Q a w):kI P c T H (.seq x y) Q:=
 fun l n a w hs=>wpIn_seq (wpIn_mono (h l n a w hs) (fun e a' w' q=>by cases e<;>first|exact q|exact hy _ _ _ _ q))
theorem kI.dc{l:List Oper}(hL:¬LetsOut Q)(hn:iG l=true)(hm:P.follows .mixedOrders=true)(h:an P l.toArray c l T H sps T' H')(hd:eP c.n l=true)(hord:mm [] [] 0 (l.zip sps)=true)(hy:kI P c T' H' y Q):kI P c T H (.seq (.region id l.toArray true) y) Q:=
 .seq (K:=fun a w=>Sat c (aP T') (ai H') a w) (kI.c_ (tT hL) hn hm h hd hord (fun _ _ hs=>hs)) (fun l n a w hs=>hy l n a w hs)
theorem kI.block(h:kI P c T H x (Exit.inBlock id Q)):kI P c T H (.block id x) Q:=fun l n a w hs=>wpIn_block (h l n a w hs)
theorem kI.exit(h:∀a w,Sat c (aP T) (ai H) a w->Q (.exit id) a w):kI P c T H (.exit id) Q:=fun _ _ a w hs=>wpIn_exit (h a w hs)
theorem kI.skip(h:∀a w,Sat c (aP T) (ai H) a w->Q .normal a w):kI P c T H .skip Q:=fun _ _ a w hs=>wpIn_skip (h a w hs)
theorem kI.cT{o:Operand}(h:ev T o=some (.bool true))(k:kI P c T H x Q):kI P c T H (.cond o x y) Q:=by
 intro l n a w hs
 obtain⟨ε,φ,hs'⟩:=hs
 exact wpIn_cond_true (hs'.ev (aA h).1 (aA h).2).1 (k l n a w ⟨ε,φ,hs'⟩)
theorem kI.cF{o:Operand}(h:ev T o=some (.bool false))(k:kI P c T H y Q):kI P c T H (.cond o x y) Q:=by
 intro l n a w hs
 obtain⟨ε,φ,hs'⟩:=hs
 exact wpIn_cond_false (hs'.ev (aA h).1 (aA h).2).1 (k l n a w ⟨ε,φ,hs'⟩)
theorem kI.sq(h:kI P c T H x (Exit.then (fun a w=>∀l n,y.wpIn (FR l) n P Q a w) Q)):kI P c T H (.seq x y) Q:=.seq h (fun l n _ _ k=>k l n)
end
end Go.Am
namespace Go.Am
open Go.RowKit
def Hp.obj(o:Obj):Hp where
 p:=fun _ w _ b F=>F=only (jF b)/\w.heap[jF b]?=some o
 nm:=[]
 mono:=fun⟨e,h⟩ _ _ hF=>⟨e,(hF _ (by rw[e];rfl)).trans h⟩
def Hp.caller(T:List (Nat×D))(tm:Array Value)(H:List (Nat×Hp)):Hp where
 p:=fun _ w S _ F=>∃(ε:Env) (φ:Nat->cr),(∀t d,aP T t=some d->d.p ε w S (tm.getD t undef))/\(∀r h,ai H r=some h->h.p ε w S (ε r) (φ r))/\
  (∀r r',ai H r≠none->ai H r'≠none->r≠r'->∀k,φ r k->¬φ r' k)/\(∀r,ai H r≠none->∀k,φ r k->F k)/\(∀k,F k->k<w.heap.size/\∃r,ai H r≠none/\φ r k)
 nm:=[]
 mono:=by
  rintro ε ε' w w' S S' b F ⟨ε1,φ1,h1,h2,h3,h4,h5⟩ _ hS hF
  refine⟨ε1,φ1,fun t d ht=>d.mono (h1 t d ht) (fun _ _=>rfl) hS,fun r h hr=>h.mono (h2 r h hr) (fun _ _=>rfl) hS (fun k hk=>hF k (h4 r (by rw[hr];simp) k hk)),h3,h4,fun k hk=>⟨?_,(h5 k hk).2⟩⟩
  have h6:=(h5 k hk).1
  have h7:=hF k hk
  rw[Array.getElem?_eq_getElem h6]at h7
  exact(Array.getElem?_eq_some_iff.1 h7).1
def ptrTo(l:Nat):Value:=.pointer (some ⟨l,0,none⟩)
section
variable {P:Program}
theorem q7{b:Env}{r:Nat}:∀{l:List Nat},r∈l->aP (pins b l) (1000000+r)=some (.pinned r (b r))
 |[],h=>by cases h
 |r0::l,h=>by
  simp only[pins,aP]
  cases hb:Nat.beq (1000000+r) (1000000+r0)with
  |true=>
   have:r=r0:=by have:=Nat.eq_of_beq_eq_true hb;omega
   subst this;rfl
  |false=>
   rcases List.mem_cons.1 h with rfl|h
   ·simp at hb
   ·exact q7 h
theorem xi{T:List (Nat×D)}{tm:Array Value}{H:List (Nat×Hp)}{A F:cr}{w:World}{b v:Value}{d:D}{p:Nat}{ε0':Env}(h:(Hp.caller T tm H).p ε0' w A b F)(hA:∀k,F k->¬A k)
  (hT:cw H (oU T)=true)(hH:cw H (jB H)=true)(hd:d.nm=[])(hv:d.p ε0' w A v)(hp:p<tm.size):
  ∃β:Env,Sat ⟨A,w.heap.size,w,tm.size,F⟩ (aP ((p,d)::(T++pins β (names H)))) (ai H) {tmps:=tm.setIfInBounds p v,defers:=[]} w/\
   (∀t d,aP T t=some d->d.p β w A (tm.getD t undef)):=by
 obtain⟨ε,φ,h1,h2,h3,h4,h5⟩:=h
 have hreg:∀k,A k->k<w.heap.size->al ⟨A,w.heap.size,w,tm.size,F⟩ (ai H) φ k/\w.heap[k]?=w.heap[k]?:=fun k hk _=>⟨⟨.inl hk,fun r hr hf=>hA k (h4 r hr k hf) hk⟩,rfl⟩
 refine⟨ε,⟨ε,φ,?_⟩,h1⟩
 have hs:cp ⟨A,w.heap.size,w,tm.size,F⟩ (aP (T++pins ε (names H))) (ai H) {tmps:=tm,defers:=[]} w ε φ:=by
  constructor
  ·intro t d' ht
   rcases ib ht with ht|ht
   ·exact d'.mono (h1 t d' ht) (fun _ _=>rfl) hreg
   ·obtain⟨r,_,_,rfl⟩:=jx ht
    rfl
  ·intro t d' ht r hr
   rcases ib ht with ht|ht
   ·exact cX hT r (ld ht r hr)
   ·obtain⟨r',hr',_,rfl⟩:=jx ht
    have:r=r':=by simpa [D.pinned]using hr
    subst this
    exact b5.2 hr'
  ·exact fun r y hy=>y.mono (h2 r y hy) (fun _ _=>rfl) hreg (fun _ _=>rfl)
  ·exact oI hH
  ·exact fun r hr k hk=>⟨.inr (h4 r hr k hk),(h5 k (h4 r hr k hk)).1⟩
  ·exact h3
  ·exact .of (Below.refl _ _)
  ·rfl
  ·rfl
  ·rfl
 have:=hs.put (dst:=some p) (d:=d) (v:=v) (fun t ht=>by injection ht with ht;subst ht;exact hp) (d.mono hv (fun r hr=>by rw[hd]at hr;cases hr) hreg) (fun r hr=>by rw[hd]at hr;cases hr)
 rw[ij]at this
 exact this
theorem vL{T T':List (Nat×D)}{tm:Array Value}{H H':List (Nat×Hp)}{A F:cr}{w w':World}{β:Env}{a:Act}{n:Nat}(hT:cw H (oU T)=true)(h0:∀t d,aP T t=some d->d.p β w A (tm.getD t undef))(hA:∀k,F k->¬A k)
  (hpin:j8 T' (pins β (names H)))(hs:Sat ⟨A,w.heap.size,w,n,F⟩ (aP T') (ai H') a w'):
  ∃F',(Hp.caller T tm H').p ε0 w' (fun k=>(A k\/w.heap.size<=k\/F k)/\¬F' k) undef F'/\(∀k,F' k->(w.heap.size<=k\/F k)/\k<w'.heap.size)/\l7 w.heap.size F w w':=by
 obtain⟨ε,φ,hs⟩:=hs
 have hpins:∀r∈names H,ε r=β r:=by
  intro r hr
  obtain⟨d,hd,hle⟩:=mJ hpin _ _ (q7 hr)
  exact hle.1 _ _ _ _ (hs.t _ _ hd)
 have hlo:∀k,(∃r,ai H' r≠none/\φ r k)->(w.heap.size<=k\/F k)/\k<w'.heap.size:=fun k ⟨r,hr,hf⟩=>hs.lo r hr k hf
 have hreg:∀k,al ⟨A,w.heap.size,w,n,F⟩ (ai H') φ k->k<w'.heap.size->((A k\/w.heap.size<=k\/F k)/\¬(∃r,ai H' r≠none/\φ r k))/\w'.heap[k]?=w'.heap[k]?:=fun k hk _=>⟨⟨hk.1,fun⟨r,hr,hf⟩=>hk.2 r hr hf⟩,rfl⟩
 refine⟨fun k=>∃r,ai H' r≠none/\φ r k,⟨ε,φ,?_,?_,hs.dj,fun r hr k hk=>⟨r,hr,hk⟩,fun k hk=>⟨(hlo k hk).2,hk⟩⟩,hlo,hs.pk⟩
 ·intro t d ht
  refine d.mono (h0 t d ht) (fun r hr=>hpins r ?_) (fun k hk hlt=>⟨⟨.inl hk,fun hf=>?_⟩,hs.pk.block k hlt (fun hF=>hA k hF hk)⟩)
  ·exact b5.1 (cX hT r (ld ht r hr))
  ·rcases(hlo k hf).1 with h|h
   ·omega
   ·exact hA k h hk
 ·intro r h hr
  exact h.mono (hs.h r h hr) (fun _ _=>rfl) hreg (fun _ _=>rfl)
def nk{σ ρ:Type}:St σ ρ->Bool
 |.next _=>true
 |.done _=>false
def YR{σ ρ:Type}(T:List (Nat×D))(tm:Array Value)(C:St σ ρ->List (Nat×Hp))(st:St σ ρ)(A F:cr)(w:World):Ending->World->Prop:=
 fun e w'=>∃F':cr,e=.returned (.bool (nk st))/\(Hp.caller T tm (C st)).p ε0 w' (fun k=>(A k\/w.heap.size<=k\/F k)/\¬F' k) undef F'/\(∀k,F' k->(w.heap.size<=k\/F k)/\k<w'.heap.size)/\l7 w.heap.size F w w'
def pC(P:Program)(l:Nat){σ ρ α:Type}(T:List (Nat×D))(tm:Array Value)(C:St σ ρ->List (Nat×Hp))(dx:α->D)(step:σ->α->Option (St σ ρ)):Prop:=
 ∀s x st,step s x=some st->∀(A F:cr) (w:World) (v:Value),(∀k,F k->¬A k)->(Hp.caller T tm (C (.next s))).p ε0 w A undef F->(dx x).p ε0 w A v->
  ∃f tmps assign body,(Instr.yield l #[v]).run P w=.ok (.round l f tmps assign body) w/\∀n,RoundIn Fence.wide n P l f tmps assign body w (YR T tm C st A F w)
def dw(fn:FuncId)(tm:Array Value)(p:Nat)(assign body:Code)(dd:Nat)(st:LoopState)(pe:Option Code):Go.Loop:={state:=st,pending:=pe,fn,tmps:=tm,params:=#[p],assign,body,defers:=dd}
def mj{σ ρ:Type}(j:Nat):St σ ρ->Option Code
 |.next _=>none
 |.done _=>some (.exit j)
def stat{σ ρ:Type}:St σ ρ->LoopState
 |.next _=>.ready
 |.done _=>.done
def bX{σ ρ:Type}(rd dd:Nat)(o:Obj)(C:St σ ρ->List (Nat×Hp))(st:St σ ρ):List (Nat×Hp):=(rd,.obj o)::(dd,.obj (.deferred (some [])))::C st
def Bt{σ ρ:Type}(c:Ctx)(j rd dd:Nat)(o:Obj)(C:St σ ρ->List (Nat×Hp))(β:Env)(bK:List Nat)(st:St σ ρ):Exit->Act->World->Prop
 |.normal,a,w=>(∃s,st=.next s)/\∃T',j8 T' (pins β bK)/\Sat c (aP T') (ai (bX rd dd o C st)) a w
 |.exit id,a,w=>id=j/\(∃r,st=.done r)/\∃T',j8 T' (pins β bK)/\Sat c (aP T') (ai (bX rd dd o C st)) a w
 |_,_,_=>False
theorem qh{c:Ctx}{T:List (Nat×D)}{H:List (Nat×Hp)}{a:Act}{w:World}{rd l:Nat}{o:Obj}(o':Obj)(hs:Sat c (aP T) (ai ((rd,.obj o)::H)) a w)(hp:∀ε φ,cp c (aP T) (ai ((rd,.obj o)::H)) a w ε φ->ε rd=ptrTo l):
  w.heap[l]?=some o/\Sat c (aP T) (ai ((rd,.obj o')::H)) a (w.putObj l o'):=by
 obtain⟨ε,φ,hs⟩:=hs
 have h1:ai ((rd,Hp.obj o)::H) rd=some (.obj o):=by simp[ai]
 have hp:=hp ε φ hs
 obtain⟨e1,e2⟩:=hs.h rd _ h1
 have hb:jF (ε rd)=l:=by rw[hp];rfl
 rw[hb]at e1 e2
 have hlt:l<w.heap.size:=(Array.getElem?_eq_some_iff.1 e2).1
 refine⟨e2,ε,φ,?_⟩
 have h2:=hs.rY (w':=w.putObj l o') (y:=.obj o') h1 (by simp) rfl rfl rfl (fun k hk=>World.putObj_heap_other (fun e=>hk (by rw[e1,e];rfl))) ⟨by rw[hb];exact e1,by rw[hb];exact World.putObj_heap_same hlt⟩ (fun r hr=>by cases hr)
 have h3:bB (ai ((rd,Hp.obj o)::H)) [(rd,.obj o')]=ai ((rd,.obj o')::H):=by
  funext r
  simp only[bB,ai]
  cases Nat.beq r rd<;>rfl
 rw[h3]at h2
 exact h2
theorem yn{c:Ctx}{T:List (Nat×D)}{H:Nat->Option Hp}{a:Act}{w:World}{β:Env}{bK:List Nat}{r:Nat}(hsub:j8 T (pins β bK))(hr:r∈bK){v:Value}(hv:β r=v):∀ε φ,cp c (aP T) H a w ε φ->ε r=v:=by
 intro ε φ hs
 obtain⟨d,hd,hle⟩:=mJ hsub _ _ (q7 hr)
 exact(show ε r=β r from hle.1 _ _ _ _ (hs.t _ _ hd)).trans hv
theorem AT{σ ρ α:Type}{l rd dd j p:Nat}{fn:FuncId}{tm:Array Value}{assign body:Code}{D0:Nat}{T:List (Nat×D)}{C:St σ ρ->List (Nat×Hp)}{dx:α->D}{step:σ->α->Option (St σ ρ)}{nmsC:List Nat}
  (hn:∀st,names (C st)=nmsC)(hrd:Nat.beq rd dd=false)(hTn:∀(o:Obj) st,cw (bX rd dd o C st) (oU T)=true)(hHn:∀(o:Obj) st,cw (bX rd dd o C st) (jB (C st))=true)(hdx:∀x,(dx x).nm=[])(hp:p<tm.size)
  (pt:Nat)(hpt:aP T pt=some (.pinned rd (ptrTo l)))
  (Hx:α->List (Nat×Hp))(T1:(β:Env)->α->List (Nat×D))(hT1:∀β x,j8 (T1 β x) (pins β (rd::dd::nmsC)))
  (ha:∀s x st,step s x=some st->∀A w0 L β,kI P ⟨A,w0.heap.size,w0,tm.size,L⟩ ((p,dx x)::(T++pins β (rd::dd::nmsC))) (bX rd dd (.loop (dw fn tm p assign body D0 .ready none)) C (.next s)) assign
   (Exit.then (fun a w=>Sat ⟨A,w0.heap.size,w0,tm.size,L⟩ (aP (T1 β x)) (ai (bX rd dd (.loop (dw fn tm p assign body D0 .ready none)) C (.next s)++Hx x)) a w) (fun _ _ _=>False)))
  (hb:∀s x st,step s x=some st->∀A w0 L β,kI P ⟨A,w0.heap.size,w0,tm.size,L⟩ (T1 β x) (bX rd dd (.loop (dw fn tm p assign body D0 .busy none)) C (.next s)++Hx x) body (Bt ⟨A,w0.heap.size,w0,tm.size,L⟩ j rd dd (.loop (dw fn tm p assign body D0 .busy none)) C β (rd::dd::nmsC) st)):
  pC P l T tm (fun st=>bX rd dd (.loop (dw fn tm p assign body D0 (stat st) (mj j st))) C st) dx step:=by
 intro s x st hst A F w v hA hcal hv
 have hnames:∀(o:Obj) st,names (bX rd dd o C st)=rd::dd::nmsC:=fun o st=>by simp only[bX,names,hn]
 have hHall:∀(o:Obj) st,cw (bX rd dd o C st) (jB (bX rd dd o C st))=true:=fun o st=>by
  show cw (bX rd dd o C st) (jB (C st))=true
  exact hHn o st
 obtain⟨β,hsat,h0⟩:=xi (d:=dx x) (v:=v) (p:=p) hcal hA (hTn _ _) (hHall _ _) (hdx x) hv hp
 rw[hnames]at hsat
 -- the record
 have hl:w.heap[l]?=some (.loop (dw fn tm p assign body D0 .ready none)):=by
  obtain⟨ε,φ,h1,h2,_⟩:=hcal
  have e1:ε rd=ptrTo l:=h1 pt _ hpt
  have e2:=(h2 rd (.obj (.loop (dw fn tm p assign body D0 .ready none))) (by simp[bX,ai,stat,mj])).2
  rw[e1]at e2
  exact e2
 refine⟨fn,_,assign,body,?_,fun n=>roundIn_of_wpIn (tmps:=tm.setIfInBounds p v) trivial (wpIn_mono (ha s x st hst A w F β l n _ _ hsat) ?_)⟩
 ·have:=run_yield (P:=P) (args:=#[v]) hl rfl
  rw[this]
  simp[dw]
 intro e a1 w1 hq
 cases e with
 |normal=>
  have hβ:β rd=ptrTo l:=h0 pt _ hpt
  have hq':Sat ⟨A,w.heap.size,w,tm.size,F⟩ (aP (T1 β x)) (ai (bX rd dd (.loop (dw fn tm p assign body D0 .ready none)) C (.next s)++Hx x)) a1 w1:=hq
  obtain⟨hl1,hS1⟩:=qh (.loop (dw fn tm p assign body D0 .busy none)) hq' (yn (hT1 β x) (by simp) hβ)
  refine⟨_,run_beginRound hl1 rfl,wpIn_mono (hb s x st hst A w F β l n _ _ hS1) ?_⟩
  have fin:∀(a2:Act) (w2:World),(∃T',j8 T' (pins β (rd::dd::nmsC))/\Sat ⟨A,w.heap.size,w,tm.size,F⟩ (aP T') (ai (bX rd dd (.loop (dw fn tm p assign body D0 .busy none)) C st)) a2 w2)->
    w2.heap[l]?=some (.loop (dw fn tm p assign body D0 .busy none))/\∃F':cr,(Hp.caller T tm (bX rd dd (.loop (dw fn tm p assign body D0 (stat st) (mj j st))) C st)).p ε0 (w2.putObj l (.loop (dw fn tm p assign body D0 (stat st) (mj j st)))) (fun k=>(A k\/w.heap.size<=k\/F k)/\¬F' k) undef F'/\
    (∀k,F' k->(w.heap.size<=k\/F k)/\k<(w2.putObj l (.loop (dw fn tm p assign body D0 (stat st) (mj j st)))).heap.size)/\l7 w.heap.size F w (w2.putObj l (.loop (dw fn tm p assign body D0 (stat st) (mj j st)))):=by
   rintro a2 w2 ⟨T',hsub,hS⟩
   obtain⟨hl2,hS2⟩:=qh (.loop (dw fn tm p assign body D0 (stat st) (mj j st))) hS (yn hsub (by simp) hβ)
   refine⟨hl2,?_⟩
   exact vL (H:=bX rd dd (.loop (dw fn tm p assign body D0 .ready none)) C (.next s)) (hTn _ _) h0 hA (by rw[hnames];exact hsub) hS2
  intro e2 a2 w2 hq2
  cases e2 with
  |normal=>
   obtain⟨⟨s',rfl⟩,hq2⟩:=hq2
   obtain⟨hl2,F',hf⟩:=fin a2 w2 hq2
   exact⟨_,_,run_endRound (P:=P) none hl2,F',rfl,hf⟩
  |exit id=>
   obtain⟨rfl,⟨r,rfl⟩,hq2⟩:=hq2
   obtain⟨hl2,F',hf⟩:=fin a2 w2 hq2
   exact⟨_,_,run_endRound (P:=P) (some (.exit id)) hl2,F',rfl,hf⟩
  |_=>exact hq2.elim
 |_=>exact hq.elim
theorem oj{nc:Nat}{h:Hp}{r:Nat}{h':Hp}(e:ai [(nc,h)] r=some h'):r=nc/\h'=h:=by
 simp only[ai]at e
 cases hb:Nat.beq r nc with
 |true=>rw[hb]at e;injection e with e;exact⟨Nat.eq_of_beq_eq_true hb,e.symm⟩
 |false=>rw[hb]at e;cases e
theorem iY{nc:Nat}{h:Hp}{r:Nat}(e:ai [(nc,h)] r≠none):r=nc:=by
 cases hq:ai [(nc,h)] r with
 |none=>exact absurd hq e
 |some h'=>exact(oj hq).1
theorem zD{dst:Option Nat}{ty:TypeId}{pos:String}{aft:Array Edge}{l:Nat}{x y:Operand}{ats:Array TypeId}(a:Act)(w:World){v:Value}(hx:a.eval x=.func (.yield l) #[] #[])(hy:a.eval y=v):
  (execOp a.eval ⟨dst,.call {callee:=.value x,args:=#[y],argTypes:=ats},ty,pos,aft,none⟩).run P w=(Instr.yield l #[v]).run P w:=by
 simp only[execOp,resolve,hx,Deferred.ofValue,Sem.run_bind,Sem.run_pure,Result.andThen_ok,invoke]
 simp[hy]
theorem Bo{σ ρ α:Type}{l:Nat}{T:List (Nat×D)}{tm:Array Value}{C:St σ ρ->List (Nat×Hp)}{dx:α->D}{step:σ->α->Option (St σ ρ)}(hY:pC P l T tm C dx step){s:σ}{x0:α}{st:St σ ρ}(hst:step s x0=some st)
  {c:Ctx}{T2:List (Nat×D)}{H2:List (Nat×Hp)}{x y:Operand}{nc n:Nat}(hx:ev T2 x=some (.lit (.func (.yield l) #[] #[])))(hy:ev T2 y=some (dx x0))(hdx:(dx x0).nm=[])(hH:ai H2 nc=some (.caller T tm (C (.next s))))
  {dst:Option Nat}{ty:TypeId}{pos:String}{aft:Array Edge}{ats:Array TypeId}(hdst:∀t,dst=some t->t<c.n){K:Act->World->Prop}{Q:Exit->Act->World->Prop}
  (hK:∀a' w',Sat c (aP (br T2 dst (.bool (nk st)))) (ai ((nc,.caller T tm (C st))::H2)) a' w'->K a' w'){a:Act}{w:World}(hs:Sat c (aP T2) (ai H2) a w):
  Oper.wpIn Fence.wide n P ⟨dst,.call {callee:=.value x,args:=#[y],argTypes:=ats},ty,pos,aft,none⟩ a w K Q:=by
 obtain⟨ε,φ,hs⟩:=hs
 have ex:=(hs.ev (aA hx).1 (aA hx).2).1
 have ey:=(hs.ev (aA hy).1 (aA hy).2).1
 have hcal:=hs.h nc _ hH
 have hHn:ai H2 nc≠none:=by rw[hH];simp
 obtain⟨f,tmps,assign,body,hrun,hround⟩:=hY s x0 st hst (al c (ai H2) φ) (φ nc) w (a.eval y) (fun k hk hr=>hr.2 nc hHn hk) hcal ((dx x0).mono ey (fun r hr=>by rw[hdx]at hr;cases hr) (fun k hk _=>⟨hk,rfl⟩))
 refine⟨fun _ _=>trivial,?_⟩
 rw[Oper.semAt_eq _ _ _ (by intro c hc;cases hc),zD a w ex rfl,hrun]
 refine⟨fun hd=>by simp[Fence.wide]at hd,(hround (n-1)).mono ?_⟩
 rintro e w' ⟨F',rfl,hp,hlo,hbel⟩
 have hfn:cU φ nc F' nc=F':=au _ _ _
 have hloan:∀k,lY [(nc,Hp.caller T tm (C (.next s)))] φ k↔φ nc k:=fun k=>⟨fun⟨r,hr,hf⟩=>by rw[←iY hr];exact hf,fun hf=>⟨nc,by simp[ai],hf⟩⟩
 obtain⟨ε1,φ1,hS⟩:=hs.back (T0:=aP T2) (Hi:=[(nc,.caller T tm (C (.next s)))]) (Ho:=[(nc,.caller T tm (C st))]) (d:=.bool (nk st)) (v:=.bool (nk st)) (dst:=dst) (ε':=ε) (φ':=cU φ nc F') (n:=0) (w':=w')
  (fun r h hr=>by obtain⟨rfl,rfl⟩:=oj hr;exact hH) (fun r ho hi=>by rw[iY ho]at hi;simp[ai]at hi) (fun r h hr r' hr'=>by obtain⟨rfl,rfl⟩:=oj hr;cases hr') (fun r hr=>by cases hr) (fun r hr=>by rw[iY hr];simp[ai]) (fun _ _=>rfl)
  ⟨rfl,fun r h hr=>by
   obtain⟨rfl,rfl⟩:=oj hr
   rw[hfn]
   refine(Hp.caller T tm (C st)).mono (ε:=ε0) hp (fun r hr=>by cases hr) (fun k hk _=>⟨⟨?_,fun r' hr'=>?_⟩,rfl⟩) (fun _ _=>rfl)
   ·rcases hk.1 with h|h|h
    ·exact .inl h
    ·exact .inr (.inl h)
    ·exact .inr (.inr ((hloan k).2 h))
   ·rw[iY hr',hfn];exact hk.2,
   fun r hr k hk=>by
   rw[iY hr,hfn]at hk
   exact⟨(hlo k hk).1.elim .inl (fun h=>.inr ((hloan k).2 h)),(hlo k hk).2⟩,
   fun r r' hr hr' hne=>absurd ((iY hr).trans (iY hr').symm) hne,
   ⟨hbel.os,hbel.tape,hbel.output,hbel.size,fun k hk hl=>hbel.block k hk (fun hf=>hl ((hloan k).2 hf))⟩⟩ hdst
 rw[ij,bw]at hS
 exact hK _ _ ⟨ε1,φ1,hS⟩
def mark(D:Nat):Deferred:={target:=.collected D,args:=#[]}
def kR(rd dd l b:Nat)(Tk:List (Nat×D)):List (Nat×D):=(2000000,.pinned rd (ptrTo l))::(2000001,.pinned dd (ptrTo b))::Tk
def xT{σ ρ:Type}(j:Nat):St σ ρ->Exit
 |.next _=>.normal
 |.done _=>.exit j
theorem Ok.Eh{σ ρ α:Type}{c:Ctx}{T:List (Nat×D)}{H:List (Nat×Hp)}{Q:Exit->Act->World->Prop}{g:Operand}{f:FuncId}{p:Nat}{assign body:Code}{rb tb j rd dd:Nat}{lb lb':List D}{C:St σ ρ->List (Nat×Hp)}{dx:α->D}{step:σ->α->Option (St σ ρ)}{s0:σ}{cH:St σ ρ}(Tk:List (Nat×D))(nmsC:List Nat)
  (hg:ev T g=some (.pJ f [] [.ref rb 0]))(hok:nf P f=true)(hrb:ai H rb=some (.box tb lb))(hlb:bK lb=[])(hTk:∀t d,aP Tk t=some d->aP T t=some d)(hC:Fk (C (.next s0)) H)(hCb:ai (C (.next s0)) rb=none)(hrd:ai H rd=none)(hdd:ai H dd=none)(hne:Nat.beq rd dd=false)
  (hn:∀st,names (C st)=nmsC)(hTn:∀(l b:Nat) (o:Obj) st,cw (bX rd dd o C st) (oU (kR rd dd l b Tk))=true)(hHn:∀(o:Obj) st,cw (bX rd dd o C st) (jB (C st))=true)(hdx:∀x,(dx x).nm=[])(hp:p<c.n)
  (hcall:∀(l b:Nat) (fn:FuncId) (tm:Array Value),pC P l (kR rd dd l b Tk) tm (fun st=>bX rd dd (.loop (dw fn tm p assign body b (stat st) (mj j st))) C st) dx step->
   aS P f [(0,.box tb lb),(1,.caller (kR rd dd l b Tk) tm (bX rd dd (.loop (dw fn tm p assign body b (stat (.next s0:St σ ρ)) (mj j (.next s0:St σ ρ)))) C (.next s0)))] [.lit (.func (.yield l) #[] #[]),.ref 0 0]
    [(0,.box tb lb'),(1,.caller (kR rd dd l b Tk) tm (bX rd dd (.loop (dw fn tm p assign body b (stat cH) (mj j cH))) C cH))] .any)
  (Hx:α->List (Nat×Hp))(T1:(β:Env)->(l b:Nat)->α->List (Nat×D))(hT1:∀β l b x,j8 (T1 β l b x) (pins β (rd::dd::nmsC)))
  (ha:∀(l b:Nat) (o:Obj) s x st,step s x=some st->∀A w0 L β,kI P ⟨A,w0.heap.size,w0,c.n,L⟩ ((p,dx x)::(kR rd dd l b Tk++pins β (rd::dd::nmsC))) (bX rd dd o C (.next s)) assign
   (Exit.then (fun a w=>Sat ⟨A,w0.heap.size,w0,c.n,L⟩ (aP (T1 β l b x)) (ai (bX rd dd o C (.next s)++Hx x)) a w) (fun _ _ _=>False)))
  (hb:∀(l b:Nat) (o:Obj) s x st,step s x=some st->∀A w0 L β,kI P ⟨A,w0.heap.size,w0,c.n,L⟩ (T1 β l b x) (bX rd dd o C (.next s)++Hx x) body (Bt ⟨A,w0.heap.size,w0,c.n,L⟩ j rd dd o C β (rd::dd::nmsC) st))
  (hQ:∀(l b:Nat) (o:Obj) (a:Act) (w:World),a.defers=[mark b]->Sat c (aP (kR rd dd l b Tk)) (ai ((rd,.obj o)::(dd,.obj (.deferred (some [])))::C cH)) {a with defers:=[]} w->Q (xT j cH) a w):
  Ok P c T H (.rangeFunc g #[p] assign body) Q:=by
 rintro a w ⟨ε,φ,hs⟩
 refine(wpIn_wide (n:=0)).1 (wpIn_rangeFunc (fun fn _=>?_))
 obtain⟨vs,us,eg,hvs,hus⟩:=(hs.ev (aA hg).1 (aA hg).2).1
 obtain rfl:vs=[]:=List.eq_nil_of_length_eq_zero (aI hvs)
 match us,hus with
 |[u],hus=>
 have eu:u=.pointer (some ⟨jF (ε rb),0,none⟩):=hus.1
 have hrdd:rd≠dd:=fun e=>by subst e;simp at hne
 -- the two blocks
 have hs1:=hs.j4 (r:=dd) (x:=.obj (.deferred (some []))) (b:=ptrTo w.heap.size) (F:=only w.heap.size) (w':=w.alloc (.deferred (some []))) hdd ((Below.refl _ _).alloc (Nat.le_refl _) _) (fun k hk=>by simp only[only]at hk;subst hk;simp) ⟨rfl,fV _ _⟩ (fun r hr=>by cases hr)
 have hs2:=hs1.j4 (r:=rd) (x:=.obj (.loop (dw fn a.tmps p assign body w.heap.size .ready none))) (b:=ptrTo (w.heap.size+1)) (F:=only (w.heap.size+1)) (w':=(w.alloc (.deferred (some []))).alloc (.loop (dw fn a.tmps p assign body w.heap.size .ready none)))
  (by rw[bF,aC _ _ hrdd];exact hrd) ((Below.refl _ _).alloc (Nat.le_refl _) _) (fun k hk=>by simp only[only]at hk;subst hk;simp) ⟨rfl,by have:=fV (w.alloc (.deferred (some []))) (.loop (dw fn a.tmps p assign body w.heap.size .ready none));rw[World.size_alloc]at this;exact this⟩ (fun r hr=>by cases hr)
 have eH:bB (bB (ai H) [(dd,.obj (.deferred (some [])))]) [(rd,.obj (.loop (dw fn a.tmps p assign body w.heap.size .ready none)))]=ai ((rd,.obj (.loop (dw fn a.tmps p assign body w.heap.size .ready none)))::(dd,.obj (.deferred (some [])))::H):=by
  rw[bw,bw];rfl
 rw[eH]at hs2
 generalize hε1:cU (cU ε dd (ptrTo w.heap.size)) rd (ptrTo (w.heap.size+1))=ε1 at hs2
 generalize hφ1:cU (cU φ dd (only w.heap.size)) rd (only (w.heap.size+1))=φ1 at hs2
 generalize hW:(w.alloc (.deferred (some []))).alloc (.loop (dw fn a.tmps p assign body w.heap.size .ready none))=W at hs2
 have erd:ε1 rd=ptrTo (w.heap.size+1):=by rw[←hε1,au]
 have edd:ε1 dd=ptrTo w.heap.size:=by rw[←hε1,aC _ _ (Ne.symm hrdd),au]
 have hrbd:rb≠dd:=fun e=>by subst e;rw[hrb]at hdd;cases hdd
 have hrbr:rb≠rd:=fun e=>by subst e;rw[hrb]at hrd;cases hrd
 have erb:ε1 rb=ε rb:=by rw[←hε1,aC _ _ hrbr,aC _ _ hrbd]
 obtain⟨HA,hHA⟩:∃HA,HA=(rd,Hp.obj (.loop (dw fn a.tmps p assign body w.heap.size .ready none)))::(dd,Hp.obj (.deferred (some [])))::H:=⟨_,rfl⟩
 rw[←hHA]at hs2
 obtain⟨H1,hH1⟩:∃H1,H1=bX rd dd (.loop (dw fn a.tmps p assign body w.heap.size .ready none)) C (.next s0):=⟨_,rfl⟩
 have hbeq:∀{x y:Nat},x≠y->Nat.beq x y=false:=fun{x y} h=>by
  cases hq:Nat.beq x y with
  |false=>rfl
  |true=>exact absurd (Nat.eq_of_beq_eq_true hq) h
 -- the caller's blocks are the state's own
 have hin1:∀r h,ai H1 r=some h->ai HA r=some h:=by
  intro r h hr
  rw[hH1]at hr
  rw[hHA]
  simp only[bX,ai]at hr|-
  cases hq:Nat.beq r rd with
  |true=>rw[hq]at hr;exact hr
  |false=>
   rw[hq]at hr
   cases hq2:Nat.beq r dd with
   |true=>rw[hq2]at hr;exact hr
   |false=>rw[hq2]at hr;exact hC r h hr
 have hin1n:∀r,ai H1 r≠none->ai HA r≠none:=fun r hr=>by
  cases hq:ai H1 r with
  |none=>exact absurd hq hr
  |some h=>rw[hin1 r h hq];simp
 have hrb1:ai HA rb=some (.box tb lb):=by rw[hHA];simp only[ai,hbeq hrbr,hbeq hrbd];exact hrb
 have hrb1n:ai HA rb≠none:=by rw[hrb1];simp
 have hrbn1:∀r,ai H1 r≠none->rb≠r:=by
  intro r hr e
  subst e
  rw[hH1]at hr
  simp only[bX,ai,hbeq hrbr,hbeq hrbd]at hr
  exact hr hCb
 have hTk1:∀t d,aP (kR rd dd (w.heap.size+1) w.heap.size Tk) t=some d->d.p ε1 W (Am.al c (ai HA) φ1) (a.tmps.getD t undef):=by
  intro t d ht
  simp only[kR,aP]at ht
  cases hq:Nat.beq t 2000000 with
  |true=>rw[hq]at ht;injection ht with ht;subst ht;exact erd
  |false=>
   rw[hq]at ht
   cases hq2:Nat.beq t 2000001 with
   |true=>rw[hq2]at ht;injection ht with ht;subst ht;exact edd
   |false=>rw[hq2]at ht;exact hs2.t t d (hTk t d ht)
 have hsz:a.tmps.size=c.n:=hs.sz
 have hY:pC P (w.heap.size+1) (kR rd dd (w.heap.size+1) w.heap.size Tk) a.tmps (fun st=>bX rd dd (.loop (dw fn a.tmps p assign body w.heap.size (stat st) (mj j st))) C st) dx step:=
  AT hn hne (hTn _ _) hHn hdx (by rw[hsz];exact hp) 2000000 rfl Hx (fun β x=>T1 β (w.heap.size+1) w.heap.size x) (fun β x=>hT1 β _ _ x) (fun s x st hst A w0 L β=>by rw[hsz];exact ha _ _ _ s x st hst A w0 L β) (fun s x st hst A w0 L β=>by rw[hsz];exact hb _ _ _ s x st hst A w0 L β)
 have hc:=hcall _ _ fn a.tmps hY
 refine⟨w.heap.size+1,[mark w.heap.size],W,{target:=.fn (.func f) #[u],args:=#[.func (.yield (w.heap.size+1)) #[] #[]]},W,f,#[.func (.yield (w.heap.size+1)) #[] #[],u],W,?_,?_,fun _ _=>trivial,?_,fun hd=>by simp[Fence.wide]at hd,callsIn_wide.2 ?_⟩
 ·rw[←hW];exact run_enterLoop_outer _ _ _ _ _
 ·simp only[resolve,eg]
  simp[go_sem]
 ·have hok':=hok
  unfold nf at hok'
  cases hf:P.funcs[f]?with
  |none=>simp[hf]at hok'
  |some fn'=>
   simp only[hf,Bool.and_eq_true,Bool.not_eq_true']at hok'
   have hbn:fn'.body.isNone=false:=by cases h:fn'.body<;>simp_all
   simp only[invoke,callFunc,Sem.run_bind,run_program,Result.andThen_ok,hf,hok'.1,Bool.false_eq_true,if_false,hbn]
   simp
 -- the call
 let ε2:Env:=fun r=>if r=0 then ε1 rb else undef
 let F1:cr:=fun k=>∃r,ai H1 r≠none/\φ1 r k
 let φ2:Nat->cr:=fun r=>if r=0 then φ1 rb else F1
 have hget2:∀{x y:Hp} {r:Nat} {h:Hp},ai [(0,x),(1,y)] r=some h->(r=0/\h=x)\/(r=1/\h=y):=by
  intro x y r h hr
  simp only[ai]at hr
  cases hq:Nat.beq r 0 with
  |true=>rw[hq]at hr;injection hr with hr;exact .inl ⟨Nat.eq_of_beq_eq_true hq,hr.symm⟩
  |false=>
   rw[hq]at hr
   cases hq2:Nat.beq r 1 with
   |true=>rw[hq2]at hr;injection hr with hr;exact .inr ⟨Nat.eq_of_beq_eq_true hq2,hr.symm⟩
   |false=>rw[hq2]at hr;cases hr
 have hget2n:∀{x y:Hp} {r:Nat},ai [(0,x),(1,y)] r≠none->r=0\/r=1:=by
  intro x y r hr
  cases hq:ai [(0,x),(1,y)] r with
  |none=>exact absurd hq hr
  |some h=>exact(hget2 hq).imp (·.1) (·.1)
 refine(hc.calls (Am.al c (ai HA) φ1) W ε2 φ2 [.func (.yield (w.heap.size+1)) #[] #[],u] ?_ ?_ ?_ ⟨rfl,?_,trivial⟩).mono ?_
 ·intro r hr k hk
  rcases hget2n hr with rfl|rfl
  ·exact⟨fun h=>h.2 rb hrb1n hk,(hs2.lo rb hrb1n k hk).2⟩
  ·obtain⟨r,hr,hf⟩:=hk
   exact⟨fun h=>h.2 r (hin1n r hr) hf,(hs2.lo r (hin1n r hr) k hf).2⟩
 ·intro r r' hr hr' hne' k hk hk'
  rcases hget2n hr with rfl|rfl<;>rcases hget2n hr' with rfl|rfl
  ·exact hne' rfl
  ·obtain⟨r,hr,hf⟩:=hk'
   exact hs2.dj rb r hrb1n (hin1n r hr) (hrbn1 r hr) k hk hf
  ·obtain⟨r,hr,hf⟩:=hk
   exact hs2.dj rb r hrb1n (hin1n r hr) (hrbn1 r hr) k hk' hf
  ·exact hne' rfl
 ·intro r h hr
  rcases hget2 hr with⟨rfl,rfl⟩|⟨rfl,rfl⟩
  ·exact(Hp.box tb lb).mono (hs2.h rb _ hrb1) (fun r hr=>by rw[show(Hp.box tb lb).nm=bK lb from rfl,hlb]at hr;cases hr) (fun _ hk _=>⟨hk,rfl⟩) (fun _ _=>rfl)
  ·refine⟨ε1,φ1,hTk1,?_,?_,fun r hr k hk=>?_,fun k ⟨r,hr,hf⟩=>?_⟩
   ·exact fun r h hr=>hs2.h r h (hin1 r h (by rw[hH1];exact hr))
   ·exact fun r r' hr hr'=>hs2.dj r r' (hin1n r (by rw[hH1];exact hr)) (hin1n r' (by rw[hH1];exact hr'))
   ·exact⟨r,by rw[hH1];exact hr,hk⟩
   ·exact⟨(hs2.lo r (hin1n r hr) k hf).2,r,by rw[hH1]at hr;exact hr,hf⟩
 ·show u=_
  rw[eu]
  show _=Value.pointer (some ⟨jF (ε1 rb),0,none⟩)
  rw[erb]
 rintro e w3 ⟨v,ε',φ',rfl,hε',_,hp',hlo',hdj',hbel'⟩
 obtain⟨ε3,φ3,k1,k2,k3,k4,k5⟩:=hp' 1 _ rfl
 have hloan:∀k,lY [(0,Hp.box tb lb),(1,Hp.caller (kR rd dd (w.heap.size+1) w.heap.size Tk) a.tmps (bX rd dd (.loop (dw fn a.tmps p assign body w.heap.size (stat (.next s0:St σ ρ)) (mj j (.next s0:St σ ρ)))) C (.next s0)))] φ2 k->c.base<=k\/c.L k:=by
  rintro k ⟨r,hr,hf⟩
  rcases hget2n hr with rfl|rfl
  ·exact(hs2.lo rb hrb1n k hf).1
  ·obtain⟨r,hr,hf⟩:=hf
   exact(hs2.lo r (hin1n r hr) k hf).1
 have hF1:∀k,φ' 1 k->(c.base<=k\/c.L k)/\k<w3.heap.size:=fun k hk=>by
  have:=hlo' 1 (by simp[ai]) k hk
  refine⟨?_,this.2⟩
  rcases this.1 with h|h
  ·exact .inl (Nat.le_trans hs2.fO h)
  ·exact hloan k h
 have hregE:∀{HE:List (Nat×Hp)},(∀r,ai HE r≠none->∀k,φ3 r k->φ' 1 k)->∀k,Am.al ⟨Am.al c (ai HA) φ1,W.heap.size,W,0,lY [(0,Hp.box tb lb),(1,Hp.caller (kR rd dd (w.heap.size+1) w.heap.size Tk) a.tmps (bX rd dd (.loop (dw fn a.tmps p assign body w.heap.size (stat (.next s0:St σ ρ)) (mj j (.next s0:St σ ρ)))) C (.next s0)))] φ2⟩ (ai [(0,.box tb lb'),(1,.caller (kR rd dd (w.heap.size+1) w.heap.size Tk) a.tmps (bX rd dd (.loop (dw fn a.tmps p assign body w.heap.size (stat cH) (mj j cH))) C cH))]) φ' k->
   Am.al c (ai HE) φ3 k:=by
  intro HE hHE k ⟨h1,h2⟩
  refine⟨?_,fun r hr hf=>h2 1 (by simp[ai]) (hHE r hr k hf)⟩
  rcases h1 with h|h|h
  ·exact h.1
  ·exact .inr (.inl (Nat.le_trans hs2.fO h))
  ·exact .inr (hloan k h)
 have hS:Sat c (aP (kR rd dd (w.heap.size+1) w.heap.size Tk)) (ai (bX rd dd (.loop (dw fn a.tmps p assign body w.heap.size (stat cH) (mj j cH))) C cH)) a w3:=by
  refine⟨ε3,φ3,?_⟩
  constructor
  ·exact fun t d ht=>d.mono (k1 t d ht) (fun _ _=>rfl) (fun k hk _=>⟨hregE k4 k hk,rfl⟩)
  ·exact fun t d ht r hr=>cX (hTn _ _ _ _) r (ld ht r hr)
  ·exact fun r h hr=>h.mono (k2 r h hr) (fun _ _=>rfl) (fun k hk _=>⟨hregE k4 k hk,rfl⟩) (fun _ _=>rfl)
  ·exact oI (by
    show cw _ (jB (C cH))=true
    exact hHn _ _)
  ·exact fun r hr k hk=>hF1 k (k4 r hr k hk)
  ·exact k3
  ·refine hs2.pk.trans ⟨hbel'.os,hbel'.tape,hbel'.output,hbel'.size,fun k hk hl=>hbel'.block k (Nat.lt_of_lt_of_le hk hs2.fO) (fun hf=>?_)⟩
   rcases hloan k hf with h|h
   ·omega
   ·exact hl h
  ·exact hs.bs
  ·exact hs.sz
  ·exact hs.df
 obtain⟨hl3,hS4⟩:=qh (.loop {dw fn a.tmps p assign body w.heap.size (stat cH) (mj j cH)with state:=.exhausted}) hS (fun ε φ hs=>hs.t 2000000 _ rfl)
 refine⟨mj j cH,_,run_endLoop (P:=P) hl3 (by cases cH<;>simp[dw,stat]),?_⟩
 have hdf:a.defers=[]:=hs.df
 have hfin:=hQ (w.heap.size+1) w.heap.size _ {a with defers:=[mark w.heap.size]++a.defers} _ (by simp[hdf]) (by
  have e1:({({a with defers:=[mark w.heap.size]++a.defers}:Act)with defers:=[]}:Act)=a:=by
   cases a;simp only at hdf;subst hdf;rfl
  rw[e1];exact hS4)
 cases cH with
 |next s=>exact hfin
 |done r=>exact wpIn_exit hfin
def DS(P:Program)(ds:List Deferred)(c:Ctx)(T:List (Nat×D))(H:List (Nat×Hp))(x:Code)(Q:Exit->Act->World->Prop):Prop:=
 ∀a w,a.defers=ds->Sat c (aP T) (ai H) {a with defers:=[]} w->x.wp P Q a w
theorem nL(a:Act)(xs:List Deferred)(dst:Option Nat)(v:Value):({a with defers:=xs}:Act).put dst v={a.put dst v with defers:=xs}:=by cases dst<;>rfl
theorem Dc{o:Oper}{a:Act}{xs ds:List Deferred}{next next':Act->World->Prop}{S:Act->World->Prop}{Q':Exit->Act->World->Prop}(hn:∀(b:Act) (ys:List Deferred) (w:World),next {b with defers:=ys} w->next' {b with defers:=ys++ds} w):∀{r:Result Next},o.upon P {a with defers:=xs} next (fun e a w=>e=.normal/\S a w) r->o.upon P {a with defers:=xs++ds} next' Q' r
 |.ok (.value v) w',h=>by
  rw[Oper.upon_value,nL]at*
  exact hn _ _ _ h
 |.ok .skip w',h=>by
  rw[Oper.upon_skip,nL]at*
  exact hn _ _ _ h
 |.ok (.defer d) w',h=>by
  rw[Oper.upon_defer]at*
  exact(nL a (d::(xs++ds)) o.dst undef)▸hn (a.put o.dst undef) (d::xs) w' ((nL a (d::xs) o.dst undef)▸h)
 |.ok (.enter f args) w',h=>Calls.mono h fun e w'' hr=>by
   cases e with
   |returned v=>
    simp only at hr|-
    rw[nL]at*
    exact hn _ _ _ hr
   |panicked chain=>exact absurd hr.1 (by simp)
   |outgrown=>obtain⟨a,w,he,_⟩:=hr;cases he
 |.ok (.row row args) w',h=>Rows.mono h fun v w'' hr=>by
   rw[nL]at*
   exact hn _ _ _ hr
 |.halt (.panic v) w',h=>absurd h.1 (by simp)
 |.ok (.round ..) _,h=>h.elim
theorem ur{ds:List Deferred}{ops:Array Oper}{S:Act->World->Prop}:∀(is:List Nat) (xs:List Deferred) (a:Act) (w:World),
  wpOps P ops (fun e a w=>e=.normal/\S a w) is {a with defers:=xs} w->wpOps P ops (fun e a w=>e=.normal/\∃ys,a.defers=ys++ds/\S {a with defers:=ys} w) is {a with defers:=xs++ds} w
 |[],xs,a,w,h=>⟨h.1,xs,rfl,h.2⟩
 |i::rest,xs,a,w,h=>by
  unfold wpOps at h|-
  cases ho:ops[i]?with
  |none=>rw[ho]at h;exact ur rest xs a w h
  |some o=>
   rw[ho]at h
   simp only at h|-
   split
   ·rename_i hw1
    rw[if_pos hw1]at h
    rcases h with h|h
    ·refine .inl ?_
     unfold Oper.wp at h|-
     have he:({a with defers:=xs}:Act).eval=({a with defers:=xs++ds}:Act).eval:=by funext x;cases x<;>rfl
     rw[he]at h
     exact Dc (fun b ys w hk=>ur rest ys b w hk) h
    ·obtain⟨_,a,w,he,_⟩:=h;cases he
   ·rename_i hw1
    rw[if_neg hw1]at h
    rw[nL]at h|-
    exact ur rest xs _ w h
theorem Dz{ds:List Deferred}{ops:Array Oper}{c:Ctx}{T:List (Nat×D)}{H:List (Nat×Hp)}(is:List Nat)(a:Act)(w:World)(ha:a.defers=ds)
  (h:wpOps P ops (fun e a w=>e=.normal/\Sat c (aP T) (ai H) a w) is {a with defers:=[]} w):wpOps P ops (fun e a w=>e=.normal/\∃ys,a.defers=ys++ds/\Sat c (aP T) (ai H) {a with defers:=ys} w) is a w:=by
 have:=ur (ds:=ds) is [] a w h
 have e:({a with defers:=[]++ds}:Act)=a:=by subst ha;rfl
 rw[e]at this
 exact this
theorem kI.cj{c:Ctx}{T:List (Nat×D)}{H:List (Nat×Hp)}{Q:Exit->Act->World->Prop}{x y:Code}{o:Operand}{b:Bool}(h:ev T o=some (.bool b))(hb:b=true)(k:kI P c T H x Q):kI P c T H (.cond o x y) Q:=by subst hb;exact .cT h k
theorem kI.ck{c:Ctx}{T:List (Nat×D)}{H:List (Nat×Hp)}{Q:Exit->Act->World->Prop}{x y:Code}{o:Operand}{b:Bool}(h:ev T o=some (.bool b))(hb:¬b=true)(k:kI P c T H y Q):kI P c T H (.cond o x y) Q:=by
 have:b=false:=by simpa using hb
 subst this;exact .cF h k
theorem kI.on{c:Ctx}{T:List (Nat×D)}{H:List (Nat×Hp)}{Q:Exit->Act->World->Prop}{y:Code}(h:kI P c T H y Q):∀a w,Sat c (aP T) (ai H) a w->(Exit.then (fun a w=>∀l n,y.wpIn (FR l) n P Q a w) Q) .normal a w:=fun a w hs l n=>h l n a w hs
section
variable {ds:List Deferred} {c:Ctx} {T T':List (Nat×D)} {H H':List (Nat×Hp)} {Q:Exit->Act->World->Prop} {x y:Code} {id:Nat} {sps:List Spec}
theorem Ea{c:Ctx}{T:List (Nat×D)}{H:List (Nat×Hp)}{a:Act}{ys:List Deferred}{w:World}(h:a.defers=ys++ds)(hs:Sat c (aP T) (ai H) {a with defers:=ys} w):a.defers=ds/\Sat c (aP T) (ai H) {a with defers:=[]} w:=by
 obtain⟨ε,φ,hs0⟩:=hs
 have:ys=[]:=hs0.df
 subst this
 exact⟨h,ε,φ,hs0⟩
theorem DS.c_{l:List Oper}(hm:P.follows .mixedOrders=true)(h:an P l.toArray c l T H sps T' H')(hd:eP c.n l=true)(hord:mm [] [] 0 (l.zip sps)=true)(hQ:∀a w,a.defers=ds->Sat c (aP T') (ai H') {a with defers:=[]} w->Q .normal a w):DS P ds c T H (.region id l.toArray true) Q:=by
 intro a w ha hs
 refine wp_mono (wp_region_draw (fun t=>Dz (c:=c) (T:=T') (H:=H') _ a _ ha ?_)) ?_
 ·simp only[Region.schedule,hm,Bool.true_or,if_true]
  exact wpAny_sound l.toArray.size t _ _ _ (h.rk hd hord (Q:=fun e a w=>e=.normal/\Sat c (aP T') (ai H') a w) (fun a w hs=>⟨rfl,hs⟩) _ w hs)
 ·rintro e a w ⟨rfl,ys,h1,h2⟩
  obtain⟨h3,h4⟩:=Ea h1 h2
  exact hQ a w h3 h4
theorem DS.dc{l:List Oper}(hm:P.follows .mixedOrders=true)(h:an P l.toArray c l T H sps T' H')(hd:eP c.n l=true)(hord:mm [] [] 0 (l.zip sps)=true)(hy:DS P ds c T' H' y Q):DS P ds c T H (.seq (.region id l.toArray true) y) Q:=
 fun a w ha hs=>wp_seq (DS.c_ hm h hd hord (fun a w ha hs=>hy a w ha hs) a w ha hs)
theorem Sat.Gq{fn:Func}{xs:List ResultVar}{dl:List D}{d:D}{Hi Ho:List (Nat×Hp)}{b:Nat->Value}{dd D0 n:Nat}{a:Act}{w:World}(hd:a.defers=[mark D0])(hs:Sat c (aP T) (ai ((dd,.obj (.deferred (some [])))::H)) {a with defers:=[]} w)
  (hpin:∀ε φ,cp c (aP T) (ai ((dd,.obj (.deferred (some [])))::H)) {a with defers:=[]} w ε φ->ε dd=ptrTo D0)(hx:fn.results=xs.toArray)(h:wu P c T ((dd,.obj (.deferred none))::H) xs dl)(hle:Le (BZ dl) d)(hT:j8 T (pins b (names Hi)))(hH:m9 ((dd,.obj (.deferred none))::H) Ho):
  bodyPostM Fence.wide n P fn (yS c Hi Ho b d) .ret a w:=by
 obtain⟨hD,hS⟩:=qh (.deferred none) hs hpin
 obtain⟨_,v,hv,hR⟩:=Sat.aH hx h hle hT hH _ _ hS
 show LeavesInM _ _ P fn a.tmps _ a.defers .returning w
 rw[hd]
 exact⟨by simp,.inl ⟨D0,_,rfl,run_takeDeferred hD,v,hv,hR⟩⟩
theorem vC{fn:Func}{R:Ending->World->Prop}{n:Nat}:∀a w,bodyPost P fn R .ret a w->bodyPostM Fence.wide n P fn R .ret a w:=by
 rintro a w ⟨ha,v,hv,hR⟩
 show LeavesInM _ _ P fn a.tmps _ a.defers .returning w
 rw[ha]
 exact⟨v,hv,hR⟩
end
theorem aS.ofM{f:FuncId}{fn:Func}{x:Code}{Hi Ho:List (Nat×Hp)}{ds:List D}{d:D}(hf:P.funcs[f]?=some fn)(hb:fn.body=some x)(hok:nf P f=true)(hd:cw Hi (bK ds)=true)(hni:cw Hi (jB Hi)=true)(hno:cw Ho (jB Ho)=true)(hnr:cw Ho d.nm=true)(hk:cw Ho (names Hi)=true)
  (hl:Nat.ble ds.length fn.ntmps=true)(h:∀A w0 L b,Ok P ⟨A,w0.heap.size,w0,fn.ntmps,L⟩ (frame 0 ds++pins b (names Hi)) Hi x (bodyPostM Fence.wide 0 P fn (yS ⟨A,w0.heap.size,w0,fn.ntmps,L⟩ Hi Ho b d))):aS P f Hi ds Ho d where
 ok:=hok
 D_:=hd
 Fc:=hni
 E4:=hno
 Cs:=hnr
 rI:=hk
 calls:=by
  intro A w ε φ vs hlo hdj hp hv
  refine Calls.mono (callsIn_wide.1 (callsIn_of_wp_marks hf hb trivial (wpIn_wide.2 (h A w (lY Hi φ) ε _ _ ⟨ε,φ,?_⟩)))) (fun e w' ⟨v,ε',φ',e',hε,hB⟩=>⟨v,ε',φ',e',hε,hB⟩)
  have hlen:=aI hv
  have hl':=Nat.le_of_ble_eq_true hl
  have hreg:∀k,A k->k<w.heap.size->al ⟨A,w.heap.size,w,fn.ntmps,lY Hi φ⟩ (ai Hi) φ k/\w.heap[k]?=w.heap[k]?:=fun k hk _=>⟨⟨.inl hk,fun r hr hf=>(hlo r hr k hf).1 hk⟩,rfl⟩
  constructor
  ·intro t d' ht
   rcases ib ht with ht|ht
   ·obtain⟨j,v,e,hj,hp,_⟩:=fb hv ht
    have hjl:j<vs.length:=(List.getElem?_eq_some_iff.1 hj).1
    have:(vs.toArray++Array.replicate (fn.ntmps-vs.toArray.size) undef).getD t undef=v:=by
     simp only[Nat.zero_add]at e;subst e
     simp[Array.getD_eq_getD_getElem?,Array.getElem?_append,hjl]
     have:=(List.getElem?_eq_some_iff.1 hj).2
     exact this
    rw[this]
    exact d'.mono hp (fun _ _=>rfl) hreg
   ·obtain⟨r,_,_,rfl⟩:=jx ht
    rfl
  ·intro t d' ht r hr
   rcases ib ht with ht|ht
   ·obtain⟨_,_,_,_,_,hm⟩:=fb hv ht
    exact cX hd r (bR.2 ⟨d',hm,hr⟩)
   ·obtain⟨r',hr',_,rfl⟩:=jx ht
    have:r=r':=by simpa [D.pinned]using hr
    subst this
    exact b5.2 hr'
  ·exact fun r y hy=>y.mono (hp r y hy) (fun _ _=>rfl) hreg (fun _ _=>rfl)
  ·exact oI hni
  ·exact fun r hr k hk=>⟨.inr ⟨r,hr,hk⟩,(hlo r hr k hk).2⟩
  ·exact hdj
  ·exact .of (Below.refl _ _)
  ·rfl
  ·simp[hlen];omega
  ·rfl
end
end Go.Am
namespace Go.Am
end Go.Am
namespace Go.Am
def better(a c b:Rat):Prop:=iL (c-a)<iL (b-a)\/(iL (c-a)=iL (b-a)/\(c.den<b.den\/(c.den=b.den/\c<b)))
def wM(a:Rat)(n:Nat)(r:Rat):Prop:=r.den<=n/\∀y:Rat,y.den<=n->¬better a y r
theorem fm{a x y z:Rat}(h1:¬better a z y)(h2:¬better a y x):¬better a z x:=by
 unfold better at*
 generalize iL (x-a)=u at*
 generalize iL (y-a)=v at*
 generalize iL (z-a)=w at*
 generalize x.den=d at*
 generalize y.den=e at*
 generalize z.den=f at*
 grind
theorem nA(a x:Rat):¬better a x x:=by unfold better;grind
theorem vD{a x y:Rat}(h:better a x y):¬better a y x:=by
 unfold better at*
 generalize iL (x-a)=u at*
 generalize iL (y-a)=v at*
 generalize x.den=d at*
 generalize y.den=e at*
 grind
theorem xd{a x y:Rat}(h1:¬better a x y)(h2:¬better a y x):x=y:=by
 unfold better at*
 generalize iL (x-a)=u at*
 generalize iL (y-a)=v at*
 generalize x.den=d at*
 generalize y.den=e at*
 grind
theorem sL{a:Rat}{n:Nat}{r s:Rat}(h:wM a n r)(k:wM a n s):r=s:=xd (k.2 r h.1) (h.2 s k.1)
theorem BN{a z l:Rat}(h:z<=l)(k:l<=a):¬better a z l:=by
 unfold better iL
 grind
theorem Aj{a z r:Rat}(h:r<=z)(k:a<=r):¬better a z r:=by
 unfold better iL
 grind
theorem x4{m y:Int}{d q:Int}(hd:0<d)(hq:0<q):((y:Rat)/(q:Rat)<(m:Rat)/(d:Rat))↔y*d<m*q:=by
 have hd':(0:Rat)<(d:Rat):=by exact_mod_cast hd
 have hq':(0:Rat)<(q:Rat):=by exact_mod_cast hq
 rw[Rat.div_lt_iff hq',show(m:Rat)/(d:Rat)*(q:Rat)=((m:Rat)*(q:Rat))/(d:Rat)by grind,Rat.lt_div_iff hd']
 exact_mod_cast Iff.rfl
theorem qA(z:Rat):((z.num:Int):Rat)/(((z.den:Nat):Int):Rat)=z:=by
 have:=Rat.mkRat_self z
 rw[Rat.mkRat_eq_div]at this
 exact this
theorem FQ{l1 d1 r1 d2 most:Int}(h1:0<d1)(h2:0<d2)(hdet:r1*d1-l1*d2=1)(hm:most<d1+d2)(z:Rat)(hz:(z.den:Int)<=most):z<=(l1:Rat)/(d1:Rat)\/(r1:Rat)/(d2:Rat)<=z:=by
 by_cases c1:z<=(l1:Rat)/(d1:Rat)
 ·exact .inl c1
 by_cases c2:(r1:Rat)/(d2:Rat)<=z
 ·exact .inr c2
 exfalso
 have c1:=Rat.not_le.1 c1
 have c2:=Rat.not_le.1 c2
 have hzd:0<(z.den:Int):=by have:=z.den_nz;omega
 rw[←qA z]at c1 c2
 rw[x4 hzd h1]at c1
 rw[x4 h2 hzd]at c2
 generalize (z.den:Int)=d at*
 generalize z.num=m at*
 have e1:1*d2<=(m*d1-l1*d)*d2:=Int.mul_le_mul_of_nonneg_right (by omega) (by omega)
 have e2:1*d1<=(r1*d-m*d2)*d1:=Int.mul_le_mul_of_nonneg_right (by omega) (by omega)
 have e3:(m*d1-l1*d)*d2+(r1*d-m*d2)*d1=d:=by
  have:(m*d1-l1*d)*d2+(r1*d-m*d2)*d1=d*(r1*d1-l1*d2):=by grind
  rw[this,hdet];omega
 omega
theorem xr{l d:Int}(h:0<d):(((l:Rat)/(d:Rat)).den:Int)<=d:=by
 obtain⟨n,rfl⟩:=Int.eq_ofNat_of_zero_le (Int.le_of_lt h)
 have e:((l:Rat)/(((n:Nat):Int):Rat))=mkRat l n:=by rw[Rat.mkRat_eq_div];rfl
 rw[e]
 have hn:n≠0:=by omega
 have:=i5 l n hn
 omega
theorem x7{a:Rat}{l1 d1 r1 d2 most:Int}(h1:0<d1)(h2:0<d2)(hd1:d1<=most)(hd2:d2<=most)(hdet:r1*d1-l1*d2=1)(hm:most<d1+d2)(ha:(l1:Rat)/(d1:Rat)<=a)(hb:a<=(r1:Rat)/(d2:Rat)){r:Rat}
  (hr:r=(l1:Rat)/(d1:Rat)\/r=(r1:Rat)/(d2:Rat))(k1:¬better a ((l1:Rat)/(d1:Rat)) r)(k2:¬better a ((r1:Rat)/(d2:Rat)) r):wM a most.toNat r:=by
 have e1:=xr (l:=l1) h1
 have e2:=xr (l:=r1) h2
 refine⟨by rcases hr with rfl|rfl<;>omega,fun y hy=>?_⟩
 rcases FQ h1 h2 hdet hm y (by omega)with h|h
 ·exact fm (BN h ha) k1
 ·exact fm (Aj h hb) k2
theorem De{x y:Rat}:iD x y<0↔x<y:=by unfold iD;grind
theorem zG{x y:Rat}:iD x y=0↔x=y:=by unfold iD;grind
theorem se(a c b:Rat):closer a c b=true↔better a c b:=by
 unfold closer better fg
 simp only[Bool.or_eq_true,Bool.and_eq_true,decide_eq_true_eq,beq_iff_eq,De,zG]
 have h1:(if c.den<b.den then(-1:Int)else if b.den<c.den then 1 else 0)<0↔c.den<b.den:=by grind
 have h2:(if c.den<b.den then(-1:Int)else if b.den<c.den then 1 else 0)=0↔c.den=b.den:=by grind
 rw[h1,h2]
theorem rj(a:Rat)(n j:Nat)(b:Rat):¬better a b (ku a n j b)/\¬better a (mkRat ((a*(n:Int)).floor+(j:Int)) n) (ku a n j b)/\(ku a n j b=b\/ku a n j b=mkRat ((a*(n:Int)).floor+(j:Int)) n):=by
 unfold ku
 by_cases h:closer a (mkRat ((a*(n:Int)).floor+(j:Int)) n) b=true
 ·rw[if_pos h]
  exact⟨vD ((se _ _ _).1 h),nA _ _,.inr rfl⟩
 ·rw[if_neg h]
  exact⟨nA _ _,fun hb=>h ((se _ _ _).2 hb),.inl rfl⟩
theorem ri(a:Rat):∀n:Nat,(lV a n).den<=max 1 n/\∀y:Rat,y.den<=n->¬better a y (lV a n)
 |0=>⟨by show((a.floor:Int):Rat).den<=1;rw[Rat.den_intCast];exact Nat.le_refl _,fun y hy=>absurd hy (by have:=y.den_nz;omega)⟩
 |n+1=>by
  obtain⟨h1,h2⟩:=ri a n
  obtain⟨a1,a2,a3⟩:=rj a (n+1) 0 (lV a n)
  obtain⟨b1,b2,b3⟩:=rj a (n+1) 1 (ku a (n+1) 0 (lV a n))
  show(ku a (n+1) 1 (ku a (n+1) 0 (lV a n))).den<=_/\∀y:Rat,y.den<=n+1->¬better a y (ku a (n+1) 1 (ku a (n+1) 0 (lV a n)))
  generalize hr1:ku a (n+1) 0 (lV a n)=r1 at*
  generalize hr2:ku a (n+1) 1 r1=r2 at*
  generalize lV a n=r0 at*
  have hd:∀j:Int,(mkRat ((a*((n+1:Nat):Int)).floor+j) (n+1)).den<=n+1:=fun j=>i5 _ _ (by omega)
  refine⟨?_,fun y hy=>?_⟩
  ·have:=hd 0
   have:=hd 1
   have h5:r1.den<=max 1 (n+1):=by
    rcases a3 with h|h
    ·rw[h];omega
    ·rw[h];have:=hd ((0:Nat):Int);omega
   rcases b3 with h|h
   ·rw[h];exact h5
   ·rw[h];have:=hd ((1:Nat):Int);omega
  ·by_cases hyn:y.den<=n
   ·exact fm (fm (h2 y hyn) a1) b1
   ·have hyd:y.den=n+1:=by omega
    have hn0:(0:Rat)<((n+1:Nat):Int):=by exact_mod_cast (by omega:(0:Int)<((n+1:Nat):Int))
    have ey:y=(y.num:Rat)/(((n+1:Nat):Int):Rat):=by rw[←hyd];exact(qA y).symm
    have hm:∀z:Int,mkRat z (n+1)=(z:Rat)/(((n+1:Nat):Int):Rat):=fun z=>by rw[Rat.mkRat_eq_div];rfl
    have hlo:=Rat.floor_le (a*((n+1:Nat):Int))
    have hhi:=Rat.lt_floor_add_one (a*((n+1:Nat):Int))
    generalize hF:(a*((n+1:Nat):Int)).floor=F at*
    have div_le:∀u v:Rat,u<=v->u/(((n+1:Nat):Int):Rat)<=v/(((n+1:Nat):Int):Rat):=fun u v h=>Rat.not_lt.1 (fun h2=>by
     rw[Rat.div_lt_iff hn0,Rat.div_mul_cancel (by grind)]at h2
     exact absurd h2 (Rat.not_lt.2 h))
    have ea:a=(a*((n+1:Nat):Int))/(((n+1:Nat):Int):Rat):=by rw[Rat.mul_div_cancel (by grind)]
    by_cases hc:y.num<=F
    ·refine fm (fm (BN (l:=mkRat (F+((0:Nat):Int)) (n+1)) ?_ ?_) a2) b1
     ·rw[ey,hm];apply div_le;exact_mod_cast (by omega)
     ·rw[hm];rw[ea];apply div_le;rw[show F+((0:Nat):Int)=F by omega];exact hlo
    ·refine fm (Aj (r:=mkRat (F+((1:Nat):Int)) (n+1)) ?_ ?_) b2
     ·rw[ey,hm];apply div_le;exact_mod_cast (by omega)
     ·rw[hm];rw[ea];apply div_le;exact Rat.le_of_lt hhi
theorem rB(a:Rat)(n:Nat)(h:1<=n):wM a n (lV a n):=by
 have:=ri a n
 exact⟨by have:=this.1;omega,this.2⟩
structure CF(a:Rat)(most:Int)(t:Rat)(p q lp lq:Int):Prop where
 hq:0<=q
 zQ:0<=lq
 mq:q<=most
 Gn:lq<=most
 FX:p*lq-lp*q=1\/p*lq-lp*q=-1
 rel:a*(t*(q:Rat)+(lq:Rat))=t*(p:Rat)+(lp:Rat)
 one:(q=0/\lq=1)\/(1<=q/\1<=t)
theorem AW(a:Rat)(most:Int)(h:1<=most):CF a most a 1 0 0 1 where
 hq:=by omega
 zQ:=by omega
 mq:=by omega
 Gn:=h
 FX:=.inl (by omega)
 rel:=by simp;grind
 one:=.inl ⟨rfl,rfl⟩
theorem CU{a:Rat}{most:Int}{t:Rat}{p q lp lq:Int}(h:CF a most t p q lp lq)(hm:t.floor*q+lq<=most)(ht:t-(t.floor:Rat)≠0):CF a most (1/(t-(t.floor:Rat))) (t.floor*p+lp) (t.floor*q+lq) p q:=by
 have h1:=Rat.floor_le t
 have h2:=Rat.lt_floor_add_one t
 have h2':t-(t.floor:Rat)<1:=by
  have:((t.floor+1:Int):Rat)=(t.floor:Rat)+1:=by simp
  rw[this]at h2;grind
 have hpos:0<t-(t.floor:Rat):=by grind
 have hq1:1<=t.floor*q+lq:=by
  rcases h.one with⟨e1,e2⟩|⟨e1,e2⟩
  ·rw[e1,e2];omega
  ·have h3:1<=t.floor:=Rat.le_floor_iff.2 (by simpa using e2)
   have h4:1*q<=t.floor*q:=Int.mul_le_mul_of_nonneg_right h3 h.hq
   have:=h.zQ
   omega
 generalize hf:t.floor=n at*
 refine⟨by omega,h.hq,hm,h.mq,?_,?_,.inr ⟨hq1,?_⟩⟩
 ·rcases h.FX with e|e
  ·right;grind
  ·left;grind
 ·have hr:=h.rel
  have e1:((n*q+lq:Int):Rat)=(n:Rat)*q+lq:=by simp
  have e2:((n*p+lp:Int):Rat)=(n:Rat)*p+lp:=by simp
  rw[e1,e2]
  have hu:(1/(t-(n:Rat)))*(t-(n:Rat))=1:=Rat.div_mul_cancel ht
  generalize 1/(t-(n:Rat))=u at*
  grind
 ·have hu:(1/(t-(n:Rat)))*(t-(n:Rat))=1:=Rat.div_mul_cancel ht
  rw[show(1:Rat)<=1/(t-(n:Rat))↔1*(t-(n:Rat))<=1 by
   constructor
   ·intro h;grind
   ·intro _
    exact Rat.not_lt.1 (fun h3=>by rw[Rat.div_lt_iff hpos]at h3;grind)]
  grind
theorem AQ{a:Rat}{most:Int}{t:Rat}{p q lp lq k:Int}(hmost:1<=most)(h:CF a most t p q lp lq)(hm:most<t.floor*q+lq)(hk:k=(((most:Rat)-(lq:Rat))/(q:Rat)).floor):
  1<=q/\1<=k*q+lq/\k*q+lq<=most/\∀r,(r=((k*p+lp:Int):Rat)/((k*q+lq:Int):Rat)\/r=(p:Rat)/(q:Rat))->¬better a (((k*p+lp:Int):Rat)/((k*q+lq:Int):Rat)) r->¬better a ((p:Rat)/(q:Rat)) r->wM a most.toNat r:=by
 rcases h.one with⟨e1,e2⟩|⟨hq1,ht⟩
 ·exfalso;rw[e1,e2]at hm;omega
 have hqr:(0:Rat)<(q:Rat):=by exact_mod_cast (by omega:(0:Int)<q)
 have hlo:k*q<=most-lq:=by
  have h1:=Rat.floor_le (((most:Rat)-(lq:Rat))/(q:Rat))
  rw[←hk]at h1
  have h2:¬(((most:Rat)-(lq:Rat))/(q:Rat)<(k:Rat)):=Rat.not_lt.2 h1
  rw[Rat.div_lt_iff hqr]at h2
  have h3:=Rat.not_lt.1 h2
  exact_mod_cast h3
 have hhi:most-lq<(k+1)*q:=by
  have h1:=Rat.lt_floor_add_one (((most:Rat)-(lq:Rat))/(q:Rat))
  rw[←hk,Rat.div_lt_iff hqr]at h1
  exact_mod_cast h1
 have hkn:k<t.floor:=by
  apply Int.lt_of_not_ge
  intro h1
  have:=Int.mul_le_mul_of_nonneg_right h1 h.hq
  omega
 have hk0:0<=k:=by
  apply Int.le_of_not_gt
  intro h1
  have h2:(k+1)*q<=0*q:=Int.mul_le_mul_of_nonneg_right (by omega) h.hq
  have:=h.Gn
  omega
 have e1:(k+1)*q=k*q+q:=by grind
 have hkq:0<=k*q:=Int.mul_nonneg hk0 h.hq
 have zQ:=h.zQ
 have hmq:=h.mq
 have hD:1<=k*q+lq:=by omega
 refine⟨hq1,hD,by omega,fun r hr k1 k2=>?_⟩
 have htn:(t.floor:Rat)<=t:=Rat.floor_le t
 have hkt:(k:Rat)<t:=by
  have:(k:Rat)<(t.floor:Rat):=by exact_mod_cast hkn
  grind
 have hDr:(0:Rat)<((k*q+lq:Int):Rat):=by exact_mod_cast (by omega:(0:Int)<k*q+lq)
 have hlqr:(0:Rat)<=(lq:Rat):=by exact_mod_cast zQ
 have hW:0<t*(q:Rat)+(lq:Rat):=by
  have:0<t*(q:Rat):=Rat.mul_pos (by grind) hqr
  grind
 have hrel:=h.rel
 have f1:(a*q-p)*(t*q+lq)=-((p*lq-lp*q:Int):Rat):=by
  have:((p*lq-lp*q:Int):Rat)=(p:Rat)*lq-lp*q:=by simp
  rw[this];grind
 have f2:(a*((k*q+lq:Int):Rat)-((k*p+lp:Int):Rat))*(t*q+lq)=(t-k)*((p*lq-lp*q:Int):Rat):=by
  have:((p*lq-lp*q:Int):Rat)=(p:Rat)*lq-lp*q:=by simp
  rw[this]
  have e2:((k*q+lq:Int):Rat)=(k:Rat)*q+lq:=by simp
  have e3:((k*p+lp:Int):Rat)=(k:Rat)*p+lp:=by simp
  rw[e2,e3];grind
 have sgn_pos:∀u:Rat,0<u*(t*q+lq)->0<u:=fun u hu=>Rat.not_le.1 (fun hc=>by
  have:=Rat.mul_le_mul_of_nonneg_right hc (Rat.le_of_lt hW)
  grind)
 rcases h.FX with hdet|hdet
 ·-- x < a < y
  rw[hdet]at f1 f2
  have g1:0< -(a*q-p):=sgn_pos _ (by grind)
  have g2:0<a*((k*q+lq:Int):Rat)-((k*p+lp:Int):Rat):=sgn_pos _ (by rw[f2];simp;grind)
  refine x7 (l1:=k*p+lp) (d1:=k*q+lq) (r1:=p) (d2:=q) (by omega) (by omega) (by omega) hmq (by grind) (by omega) ?_ ?_ hr k1 k2
  ·exact Rat.not_lt.1 (fun hc=>by rw[Rat.lt_div_iff hDr]at hc;grind)
  ·exact Rat.not_lt.1 (fun hc=>by rw[Rat.div_lt_iff hqr]at hc;grind)
 ·rw[hdet]at f1 f2
  have g1:0<a*q-p:=sgn_pos _ (by rw[f1];simp;grind)
  have g2:0< -(a*((k*q+lq:Int):Rat)-((k*p+lp:Int):Rat)):=sgn_pos _ (by rw[Rat.neg_mul,f2];simp;grind)
  refine x7 (l1:=p) (d1:=q) (r1:=k*p+lp) (d2:=k*q+lq) (by omega) (by omega) hmq (by omega) (by grind) (by omega) ?_ ?_ hr.symm k2 k1
  ·exact Rat.not_lt.1 (fun hc=>by rw[Rat.lt_div_iff hqr]at hc;grind)
  ·exact Rat.not_lt.1 (fun hc=>by rw[Rat.div_lt_iff hDr]at hc;grind)
theorem EX{a:Rat}{most:Int}{t:Rat}{p q lp lq:Int}(h:CF a most t p q lp lq)(hm:t.floor*q+lq<=most)(ht:t-(t.floor:Rat)=0):(a.den:Int)<=most:=by
 have hq1:1<=t.floor*q+lq:=by
  rcases h.one with⟨e1,e2⟩|⟨e1,e2⟩
  ·rw[e1,e2];omega
  ·have h3:1<=t.floor:=Rat.le_floor_iff.2 (by simpa using e2)
   have h4:1*q<=t.floor*q:=Int.mul_le_mul_of_nonneg_right h3 h.hq
   have:=h.zQ
   omega
 have e:a=((t.floor*p+lp:Int):Rat)/((t.floor*q+lq:Int):Rat):=by
  have hr:=h.rel
  have ht':t=(t.floor:Rat):=by grind
  have e1:((t.floor*q+lq:Int):Rat)=t*q+lq:=by
   have:((t.floor*q+lq:Int):Rat)=(t.floor:Rat)*q+lq:=by simp
   rw[this,←ht']
  have e2:((t.floor*p+lp:Int):Rat)=t*p+lp:=by
   have:((t.floor*p+lp:Int):Rat)=(t.floor:Rat)*p+lp:=by simp
   rw[this,←ht']
  have hne:((t.floor*q+lq:Int):Rat)≠0:=by
   have:(0:Rat)<((t.floor*q+lq:Int):Rat):=by exact_mod_cast (by omega:(0:Int)<t.floor*q+lq)
   grind
  rw[e1]at hne|-
  rw[e2,←hr,Rat.mul_div_cancel hne]
 have:=xr (l:=t.floor*p+lp) (d:=t.floor*q+lq) (by omega)
 rw[←e]at this
 omega
end Go.Am
