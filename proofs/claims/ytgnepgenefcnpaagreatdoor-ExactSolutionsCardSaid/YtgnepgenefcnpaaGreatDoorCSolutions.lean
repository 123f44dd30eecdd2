/- ExactSolutions: the walk of the law, and its plain law: it returns true for every input. No condition. -/
import Derived.Test.YtgnepgenefcnpaaGreatDoorBkG
set_option linter.unusedVariables false
set_option linter.unusedSimpArgs false
namespace Go.Am
open Go.RowKit
set_option maxRecDepth 100000
noncomputable section
def fv(a1:List Rat)(a2:Rat)(a3:List Rat)(v6:Int)(v7:List Rat):Option (St (Int×(List Rat)) (List Rat)):=(if(decide (v6<(a1.length:Int)))=true then(ix a1 v6).bind fun v13=>(eJ v13 a2).bind fun v15=>(ix a3 v6).bind fun v17=>(j0 v15 v17).bind fun v19=>bO ((v7.length+([v19]).length)*56<=140737488355328/\v7.length+([v19]).length<=9223372036854775807) (some (St.next ((IntKind.i64.wrap (v6+1)),(v7++[v19]))))else some (St.done v7))
def ku(a1:List Rat)(a2:Rat)(a3:List Rat):Option (List Rat):=((Loop (fun(s:Int×(List Rat))=>fv a1 a2 a3 s.1 s.2) (0,[])).bind fun v22=>some (v22)).bind fun v23=>some v23
theorem uR{a1:List Rat}{a2:Rat}{a3:List Rat}{r24:List Rat}(h:ku a1 a2 a3=some r24):aW PP 137 [] [an ak.rat a1,qD a2,an ak.rat a3] [] (an ak.rat r24):=by
 unfold ku at h;refine .of Go.Proofs.Tryz.func137 rfl (by kernel_rfl) rfl rfl rfl rfl rfl rfl (fun A w0 L b=>?_);show Ok PP _ [(0,an ak.rat a1),(1,qD a2),(2,an ak.rat a3)] [] _ _;refine .al (.j8 rfl rfl<|.ao rfl<|.nil) rfl ?_;refine .al (.ao rfl<|.nil) rfl ?_;obtain⟨v23,hp5,h⟩:=bind_some h;refine .cz (fun i=>v23=i) (fun(i:(List Rat))=>[(7,D.own 2000007)]) (fun(i:(List Rat))=>[(2000007,aR ak.rat 28 i)]) ?_ ?_
 ·have ho1:=h;have h:=hp5;refine .al (.ao rfl<|.nil) rfl ?_;refine .gT ak.rat 7 2000007 28 rfl rfl ?_;obtain⟨o8,hl9,h⟩:=bind_some h;have ho2:=h;refine .block (.cc (fun(s:Int×(List Rat))=>[(0,an ak.rat a1),(2,an ak.rat a3),(4,D.ref 4 0),(7,D.own 2000007),(8,D.int .i64 s.1)]) (fun(s:Int×(List Rat))=>[(4,Hp.box 28 (qC (a2))),(2000007,aR ak.rat 28 s.2)]) hl9 (.of rfl) (.of rfl) rfl rfl ?_);rintro⟨v6,v7⟩ st10 hb11;have h:fv a1 a2 a3 v6 v7=some st10:=hb11;unfold fv at h
  try dsimp only
  refine .sq ?_;refine .al (.mv rfl<|.mv rfl<|.fU rfl cr<|.cm rfl rfl rfl<|.nil) rfl ?_;by_cases c12:(decide (v6<(a1.length:Int)))=true
  ·replace h:=ab c12 h;refine .cq rfl c12 ?_;refine .skip (Ok.on ?_);refine .sq ?_;refine .block ?_;refine .sl 7 rfl rfl rfl ?_;obtain⟨v13,e14,h⟩:=bind_some h;obtain⟨v15,e16,h⟩:=bind_some h;obtain⟨v17,e18,h⟩:=bind_some h;obtain⟨v19,e20,h⟩:=bind_some h;obtain⟨k21,h⟩:=ax h;refine .de cn (.mv rfl<|.mv rfl<|.mv rfl<|.kX rfl rfl aT (ag e14).1 (ag e14).2<|.zU (l:=qC (v13)) rfl aa rfl<|.cb (qC (a2)) rfl rfl aa rfl rfl<|.ah (lA e16) ⟨rfl,rfl,trivial⟩ trivial trivial<|.mv rfl<|.mv rfl<|.kX rfl rfl aT (ag e18).1 (ag e18).2<|.zU (l:=qC (v17)) rfl aa rfl<|.ah (oU e20) ⟨rfl,rfl,trivial⟩ trivial trivial<|.yO (e:=ak.rat) [v19] [(0,_,qD v19,qC (v19))] bM rfl rfl rfl ⟨rfl,rfl,.agg _,rfl,trivial⟩ ⟨rfl,trivial⟩ rfl rfl<|.xi (ys:=[v19]) rfl .sl rfl (.refl _) rfl bM rfl k21.1 k21.2 rfl<|.ao rfl<|.nil) rfl (by kernel_rfl) (Ok.on ?_);refine .region (.mv rfl<|.ar rfl rfl rfl<|.ao rfl<|.nil) rfl (fun _ _ hs=>⟨((IntKind.i64.wrap (v6+1)),(v7++[v19])),(sj h),hs.l7 (fun r=>match r with|2000007=>28|r=>r) (.r rfl rfl<|.r rfl rfl<|.p rfl (.ref (r:=4))<|.p rfl (.own (r:=2000007))<|.r rfl rfl<|trivial) (.r rfl rfl<|.r rfl rfl<|trivial) rfl rfl rfl⟩)
  ·replace h:=ae c12 h;refine .cA rfl c12 ?_;refine .exit (fun a w hs=>⟨_,(sj h),fun e=>by subst e;have h:=ho2;exact aZ (⟨v7,(sj h),hs.sub (.of rfl) (.of rfl) rfl rfl⟩)⟩)
 ·rintro _ rfl
  try dsimp only
  refine .sl 7 rfl rfl rfl ?_;refine .al (.mv rfl<|.ao rfl<|.nil) rfl ?_;refine .uF 6 (.own 2000007) rfl .sl ?_;refine .j9 6 rfl rfl rfl ?_;cases h;refine .aN (fun _ _ hb=>hb) rfl (.t1 (.tmp rfl)) (.refl _) trivial trivial
def gG(a1:List Rat)(a2:List Rat)(v6:Int):Option (St Int (Ex Unit Bool)):=(if(decide (v6<(a1.length:Int)))=true then(ix a1 v6).bind fun v12=>(ix a2 v6).bind fun v14=>(kK v12 v14).bind fun v16=>(if(v16 !=0)=true then some (St.done (Ex.ret false))else some (St.next (IntKind.i64.wrap (v6+1))))else some (St.done (Ex.cp ())))
def mz(a1:List Rat)(a2:List Rat):Option Bool:=(if((a1.length:Int) !=(a2.length:Int))=true then some false else((Loop (fun(s:Int)=>gG a1 a2 s) 0).bind fun o7=>(match o7 with|Ex.cp ()=>some (Ex.cp ())|Ex.ret r19=>some (Ex.ret r19))).bind fun o4=>(match o4 with|Ex.cp ()=>some true|Ex.ret r20=>some r20))
theorem BX{a1:List Rat}{a2:List Rat}{r21:Bool}(h:mz a1 a2=some r21):aW PP 138 [] [an ak.rat a1,an ak.rat a2] [] (D.bool r21):=by
 unfold mz at h;refine .of Go.Proofs.Tryz.func138 rfl (by kernel_rfl) rfl rfl rfl rfl rfl rfl (fun A w0 L b=>?_);show Ok PP _ [(0,an ak.rat a1),(1,an ak.rat a2)] [] _ _;refine .al (.ao rfl<|.nil) rfl ?_;refine .sq ?_;refine .al (.mv rfl<|.fU rfl cr<|.mv rfl<|.fU rfl cr<|.cm rfl rfl rfl<|.nil) rfl ?_;by_cases c3:((a1.length:Int) !=(a2.length:Int))=true
 ·replace h:=ab c3 h;refine .cq rfl c3 ?_;refine .al (.ao rfl<|.nil) rfl ?_;cases h;refine .aN (fun _ _ hb=>hb) rfl (.t1 (.tmp rfl)) (.refl _) trivial trivial
 ·replace h:=ae c3 h;refine .cA rfl c3 ?_;refine .skip (Ok.on ?_);obtain⟨o4,hp5,h⟩:=bind_some h;refine .cz (fun i=>o4=Ex.cp i) (fun(i:Unit)=>[]) (fun(i:Unit)=>[]) ?_ ?_
  ·have ho1:=h;have h:=hp5;refine .al (.ao rfl<|.nil) rfl ?_;obtain⟨o7,hl8,h⟩:=bind_some h;have ho2:=h;refine .block (.cc (fun(s:Int)=>[(0,an ak.rat a1),(1,an ak.rat a2),(5,D.int .i64 s)]) (fun(s:Int)=>[]) hl8 (.of rfl) trivial rfl rfl ?_);rintro v6 st9 hb10;have h:gG a1 a2 v6=some st9:=hb10;unfold gG at h
   try dsimp only
   refine .sq ?_;refine .al (.mv rfl<|.mv rfl<|.fU rfl cr<|.cm rfl rfl rfl<|.nil) rfl ?_;by_cases c11:(decide (v6<(a1.length:Int)))=true
   ·replace h:=ab c11 h;refine .cq rfl c11 ?_;refine .skip (Ok.on ?_);refine .sq ?_;refine .block ?_;obtain⟨v12,e13,h⟩:=bind_some h;obtain⟨v14,e15,h⟩:=bind_some h;obtain⟨v16,e17,h⟩:=bind_some h;refine .dh cn (.mv rfl<|.mv rfl<|.kX rfl rfl aT (ag e13).1 (ag e13).2<|.zU (l:=qC (v12)) rfl aa rfl<|.mv rfl<|.mv rfl<|.kX rfl rfl aT (ag e15).1 (ag e15).2<|.zU (l:=qC (v14)) rfl aa rfl<|.ah (nA e17) ⟨rfl,rfl,trivial⟩ trivial trivial<|.cm rfl rfl rfl<|.nil) rfl (by kernel_rfl) ?_;by_cases c18:(v16 !=0)=true
    ·replace h:=ab c18 h;refine .cq rfl c18 ?_;refine .al (.ao rfl<|.nil) rfl ?_;refine .aN (Hi:=[]) (Ho:=[]) (b:=b) (fn:=Go.Proofs.Tryz.f138) (d:=D.bool false) (fun _ _ hb=>by exact⟨_,(sj h),fun e=>by subst e;have h:=ho2;cases h;have h:=ho1;cases h;exact hb⟩) rfl (.t1 (.tmp rfl)) (.refl _) trivial trivial
    ·replace h:=ae c18 h;refine .cA rfl c18 ?_;refine .skip (Ok.on ?_);refine .region (.mv rfl<|.ar rfl rfl rfl<|.ao rfl<|.nil) rfl (fun _ _ hs=>⟨(IntKind.i64.wrap (v6+1)),(sj h),hs.sub (.of rfl) trivial rfl rfl⟩)
   ·replace h:=ae c11 h;refine .cA rfl c11 ?_;refine .exit (fun a w hs=>⟨_,(sj h),fun e=>by subst e;have h:=ho2;exact aZ (⟨(),(sj h),hs.sub trivial trivial rfl rfl⟩)⟩)
  ·rintro⟨⟩ rfl
   try dsimp only
   refine .al (.ao rfl<|.nil) rfl ?_;cases h;refine .aN (fun _ _ hb=>hb) rfl (.t1 (.tmp rfl)) (.refl _) trivial trivial
def iE(v16:List (List Rat))(v20:Int)(v28:Int):Option (St Int (Ex Unit Bool)):=(if(decide (v28<(v16.length:Int)))=true then((if(v20==v28)=true then(ix v16 v20).bind fun v37=>(ix v37 v28).bind fun v39=>(fh 1).bind fun v41=>(kK v39 v41).bind fun v43=>(if(v43 !=0)=true then some (Ex.ret false)else(if(v20 !=v28)=true then(ix v16 v20).bind fun v47=>(ix v47 v28).bind fun v49=>(fm v49).bind fun v51=>(if(v51 !=0)=true then some (Ex.ret false)else some (Ex.cp ()))else some (Ex.cp ())))else(if(v20 !=v28)=true then(ix v16 v20).bind fun v55=>(ix v55 v28).bind fun v57=>(fm v57).bind fun v59=>(if(v59 !=0)=true then some (Ex.ret false)else some (Ex.cp ()))else some (Ex.cp ())))).bind fun o34=>(match o34 with|Ex.cp ()=>some (St.next (IntKind.i64.wrap (v28+1)))|Ex.ret r62=>some (St.done (Ex.ret r62)))else some (St.done (Ex.cp ())))
def gA(v16:List (List Rat))(v20:Int):Option (St Int (Ex Unit Bool)):=(if(decide (v20<(v16.length:Int)))=true then((Loop (fun(s:Int)=>iE v16 v20 s) 0).bind fun o29=>(match o29 with|Ex.cp ()=>some (Ex.cp ())|Ex.ret r63=>some (Ex.ret r63))).bind fun o26=>(match o26 with|Ex.cp ()=>some (St.next (IntKind.i64.wrap (v20+1)))|Ex.ret r64=>some (St.done (Ex.ret r64)))else some (St.done (Ex.cp ())))
def nO(a1:List (List Rat))(a2:List (List (Int×Int×Int))):Option Bool:=(j5 a1).bind fun(v3,v4)=>(if(v4 !=0)=true then some (v4==2)else(gF a1).bind fun(v7,v8)=>(fm v3).bind fun v10=>(if(!((v8==0)==(v10 !=0)))=true then some false else((if(v8==0)=true then(mw a1 v7).bind fun(v16,v17)=>(if(v17 !=0)=true then some (Ex.ret false)else(Loop (fun(s:Int)=>gA v16 s) 0).bind fun o21=>(match o21 with|Ex.cp ()=>some (Ex.cp ())|Ex.ret r65=>some (Ex.ret r65)))else some (Ex.cp ()))).bind fun o13=>(match o13 with|Ex.cp ()=>(mI a2).bind fun(v66,v67)=>(j5 v66).bind fun(v69,v70)=>(mw a1 v66).bind fun(v72,v73)=>(if(v70 !=0)=true then some true else(if(v73 !=0)=true then some true else(if((a1.length:Int) !=(v66.length:Int))=true then some true else(j5 v72).bind fun(v78,v79)=>(if(v79==0)=true then(eJ v3 v69).bind fun v82=>(mA v78 v82).bind fun v84=>some v84 else some false))))|Ex.ret r86=>some r86)))
theorem xq{a1:List (List Rat)}{a2:List (List (Int×Int×Int))}{r87:Bool}(h:nO a1 a2=some r87):aW PP 139 [] [an (ak.slice ak.rat) a1,an (ak.slice (ak.prod (ak.int .i64) (ak.prod (ak.int .i64) (ak.int .u8)))) a2] [] (D.bool r87):=by
 unfold nO at h;refine .of Go.Proofs.Tryz.func139 rfl (by kernel_rfl) rfl rfl rfl rfl rfl rfl (fun A w0 L b=>?_);show Ok PP _ [(0,an (ak.slice ak.rat) a1),(1,an (ak.slice (ak.prod (ak.int .i64) (ak.prod (ak.int .i64) (ak.int .u8)))) a2)] [] _ _;refine .al (.ao rfl<|.nil) rfl ?_;obtain⟨⟨v3,v4⟩,e5,h⟩:=bind_some h;refine .al (.mv rfl<|.ah (DY e5) ⟨rfl,trivial⟩ trivial trivial<|.mv rfl<|.ext rfl rfl<|.ext rfl rfl<|.fW (qC (0)) az ⟨k8,k_,kZ,trivial⟩ rfl<|.cH (qC (v3)) rfl rfl rfl aa rfl rfl rfl<|.ao rfl<|.nil) rfl ?_;refine .sq ?_;refine .al (.mv rfl<|.cm rfl rfl rfl<|.nil) rfl ?_;by_cases c6:(v4 !=0)=true
 ·replace h:=ab c6 h;refine .cq rfl c6 ?_;refine .al (.mv rfl<|.cm rfl rfl rfl<|.ao rfl<|.nil) rfl ?_;cases h;refine .aN (fun _ _ hb=>hb) rfl (.t1 (.tmp rfl)) (.refl _) trivial trivial
 ·replace h:=ae c6 h;refine .cA rfl c6 ?_;refine .skip (Ok.on ?_);obtain⟨⟨v7,v8⟩,e9,h⟩:=bind_some h;refine .al (.mv rfl<|.ah (Bc e9) ⟨rfl,trivial⟩ trivial trivial<|.mv rfl<|.ext rfl rfl<|.ext rfl rfl<|.ao rfl<|.ao rfl<|.nil) rfl ?_;refine .sq ?_;obtain⟨v10,e11,h⟩:=bind_some h;refine .al (.mv rfl<|.cm rfl rfl rfl<|.cb (qC (v3)) rfl rfl aa rfl rfl<|.ah (pz e11) ⟨rfl,trivial⟩ trivial trivial<|.cm rfl rfl rfl<|.bc jF rfl rfl rfl<|.nil) rfl ?_;by_cases c12:(!((v8==0)==(v10 !=0)))=true
  ·replace h:=ab c12 h;refine .cq rfl c12 ?_;refine .al (.ao rfl<|.nil) rfl ?_;cases h;refine .aN (fun _ _ hb=>hb) rfl (.t1 (.tmp rfl)) (.refl _) trivial trivial
  ·replace h:=ae c12 h;refine .cA rfl c12 ?_;refine .skip (Ok.on ?_);obtain⟨o13,hp14,h⟩:=bind_some h;refine .cz (fun i=>o13=Ex.cp i) (fun(i:Unit)=>[(0,an (ak.slice ak.rat) a1),(1,an (ak.slice (ak.prod (ak.int .i64) (ak.prod (ak.int .i64) (ak.int .u8)))) a2),(5,D.ref 5 0)]) (fun(i:Unit)=>[(5,Hp.box 28 (qC (v3)))]) ?_ ?_
   ·have ho1:=h;have h:=hp14;refine .al (.mv rfl<|.cm rfl rfl rfl<|.nil) rfl ?_;by_cases c15:(v8==0)=true
    ·replace h:=ab c15 h;refine .cq rfl c15 ?_;obtain⟨⟨v16,v17⟩,e18,h⟩:=bind_some h;refine .al (.mv rfl<|.mv rfl<|.ah (FT e18) ⟨rfl,rfl,trivial⟩ trivial trivial<|.mv rfl<|.ext rfl rfl<|.ext rfl rfl<|.ao rfl<|.ao rfl<|.nil) rfl ?_;refine .sq ?_;refine .al (.mv rfl<|.cm rfl rfl rfl<|.nil) rfl ?_;by_cases c19:(v17 !=0)=true
     ·replace h:=ab c19 h;refine .cq rfl c19 ?_;refine .al (.ao rfl<|.nil) rfl ?_;cases h;have h:=ho1;cases h;refine .aN (fun _ _ hb=>hb) rfl (.t1 (.tmp rfl)) (.refl _) trivial trivial
     ·replace h:=ae c19 h;refine .cA rfl c19 ?_;refine .skip (Ok.on ?_);refine .al (.ao rfl<|.nil) rfl ?_;obtain⟨o21,hl22,h⟩:=bind_some h;have ho2:=h;refine .block (.cc (fun(s:Int)=>[(0,an (ak.slice ak.rat) a1),(1,an (ak.slice (ak.prod (ak.int .i64) (ak.prod (ak.int .i64) (ak.int .u8)))) a2),(5,D.ref 5 0),(9,an (ak.slice ak.rat) v16),(11,D.int .i64 s)]) (fun(s:Int)=>[(5,Hp.box 28 (qC (v3)))]) hl22 (.of rfl) (.of rfl) rfl rfl ?_);rintro v20 st23 hb24;have h:gA v16 v20=some st23:=hb24;unfold gA at h
      try dsimp only
      refine .sq ?_;refine .al (.mv rfl<|.mv rfl<|.fU rfl bn<|.cm rfl rfl rfl<|.nil) rfl ?_;by_cases c25:(decide (v20<(v16.length:Int)))=true
      ·replace h:=ab c25 h;refine .cq rfl c25 ?_;refine .skip (Ok.on ?_);obtain⟨o26,hp27,h⟩:=bind_some h;refine .cz (fun i=>o26=Ex.cp i) (fun(i:Unit)=>[(0,an (ak.slice ak.rat) a1),(1,an (ak.slice (ak.prod (ak.int .i64) (ak.prod (ak.int .i64) (ak.int .u8)))) a2),(5,D.ref 5 0),(9,an (ak.slice ak.rat) v16),(11,D.int .i64 v20)]) (fun(i:Unit)=>[(5,Hp.box 28 (qC (v3)))]) ?_ ?_
       ·have ho3:=h;have h:=hp27;refine .block ?_;refine .al (.ao rfl<|.nil) rfl ?_;obtain⟨o29,hl30,h⟩:=bind_some h;have ho4:=h;refine .block (.cc (fun(s:Int)=>[(0,an (ak.slice ak.rat) a1),(1,an (ak.slice (ak.prod (ak.int .i64) (ak.prod (ak.int .i64) (ak.int .u8)))) a2),(5,D.ref 5 0),(9,an (ak.slice ak.rat) v16),(11,D.int .i64 v20),(12,D.int .i64 s)]) (fun(s:Int)=>[(5,Hp.box 28 (qC (v3)))]) hl30 (.of rfl) (.of rfl) rfl rfl ?_);rintro v28 st31 hb32;have h:iE v16 v20 v28=some st31:=hb32;unfold iE at h
        try dsimp only
        refine .sq ?_;refine .al (.mv rfl<|.mv rfl<|.fU rfl bn<|.cm rfl rfl rfl<|.nil) rfl ?_;by_cases c33:(decide (v28<(v16.length:Int)))=true
        ·replace h:=ab c33 h;refine .cq rfl c33 ?_;refine .skip (Ok.on ?_);obtain⟨o34,hp35,h⟩:=bind_some h;refine .cz (fun i=>o34=Ex.cp i) (fun(i:Unit)=>[(0,an (ak.slice ak.rat) a1),(1,an (ak.slice (ak.prod (ak.int .i64) (ak.prod (ak.int .i64) (ak.int .u8)))) a2),(5,D.ref 5 0),(9,an (ak.slice ak.rat) v16),(11,D.int .i64 v20),(12,D.int .i64 v28)]) (fun(i:Unit)=>[(5,Hp.box 28 (qC (v3)))]) ?_ ?_
         ·have ho5:=h;have h:=hp35;refine .block ?_;by_cases c36:(v20==v28)=true
          ·replace h:=ab c36 h;obtain⟨v37,e38,h⟩:=bind_some h;obtain⟨v39,e40,h⟩:=bind_some h;obtain⟨v41,e42,h⟩:=bind_some h;obtain⟨v43,e44,h⟩:=bind_some h;by_cases c45:(v43 !=0)=true
           ·replace h:=ab c45 h;refine .dh cn (.mv rfl<|.mv rfl<|.cm rfl rfl rfl<|.mv rfl<|.gy c36<|.mv rfl<|.gy c36<|.mv rfl<|.gy c36<|.kX rfl rfl aC (ag e38).1 (ag e38).2<|.gy c36<|.iJ rfl aH<|.gy c36<|.mv rfl<|.gy c36<|.kX rfl rfl aT (ag e40).1 (ag e40).2<|.gy c36<|.zU (l:=qC (v39)) rfl aa rfl<|.gy c36<|.ah (i5 e42) ⟨rfl,trivial⟩ trivial trivial<|.gy c36<|.ah (nA e44) ⟨rfl,rfl,trivial⟩ trivial trivial<|.gy c36<|.cm rfl rfl rfl<|.bm rfl c36 rfl<|.mv rfl<|.gk c45<|.gk c45<|.gk c45<|.gk c45<|.gu<|.gu<|.gu<|.gu<|.gu<|.gu<|.gu<|.gu<|.gu<|.gk c45<|.bm rfl c45 rfl<|.nil) rfl (by kernel_rfl) ?_;refine .cq rfl rfl ?_;refine .al (.ao rfl<|.nil) rfl ?_;cases h;have h:=ho5;refine .aN (Hi:=[]) (Ho:=[]) (b:=b) (fn:=Go.Proofs.Tryz.f139) (d:=D.bool false) (fun _ _ hb=>by exact⟨_,(sj h),fun e=>by subst e;have h:=ho4;cases h;have h:=ho3;exact⟨_,(sj h),fun e=>by subst e;have h:=ho2;cases h;have h:=ho1;cases h;exact hb⟩⟩) rfl (.t1 (.tmp rfl)) (.refl _) trivial trivial
           ·replace h:=ae c45 h;by_cases c46:(v20 !=v28)=true
            ·replace h:=ab c46 h;obtain⟨v47,e48,h⟩:=bind_some h;obtain⟨v49,e50,h⟩:=bind_some h;obtain⟨v51,e52,h⟩:=bind_some h;refine .dh cn (.mv rfl<|.mv rfl<|.cm rfl rfl rfl<|.mv rfl<|.gy c36<|.mv rfl<|.gy c36<|.mv rfl<|.gy c36<|.kX rfl rfl aC (ag e38).1 (ag e38).2<|.gy c36<|.iJ rfl aH<|.gy c36<|.mv rfl<|.gy c36<|.kX rfl rfl aT (ag e40).1 (ag e40).2<|.gy c36<|.zU (l:=qC (v39)) rfl aa rfl<|.gy c36<|.ah (i5 e42) ⟨rfl,trivial⟩ trivial trivial<|.gy c36<|.ah (nA e44) ⟨rfl,rfl,trivial⟩ trivial trivial<|.gy c36<|.cm rfl rfl rfl<|.bm rfl c36 rfl<|.mv rfl<|.gz c45<|.mv rfl<|.gz c45<|.mv rfl<|.gz c45<|.cm rfl rfl rfl<|.gz c45<|.mv rfl<|.gy c46<|.mv rfl<|.gy c46<|.mv rfl<|.gy c46<|.kX rfl rfl aC (ag e48).1 (ag e48).2<|.gy c46<|.iJ rfl aH<|.gy c46<|.mv rfl<|.gy c46<|.kX rfl rfl aT (ag e50).1 (ag e50).2<|.gy c46<|.zU (l:=qC (v49)) rfl aa rfl<|.gy c46<|.ah (pz e52) ⟨rfl,trivial⟩ trivial trivial<|.gy c46<|.cm rfl rfl rfl<|.gz c45<|.bm rfl c46 rfl<|.bh rfl c45 rfl<|.nil) rfl (by kernel_rfl) ?_;by_cases c53:(v51 !=0)=true
             ·replace h:=ab c53 h;refine .cq rfl c53 ?_;refine .al (.ao rfl<|.nil) rfl ?_;cases h;have h:=ho5;refine .aN (Hi:=[]) (Ho:=[]) (b:=b) (fn:=Go.Proofs.Tryz.f139) (d:=D.bool false) (fun _ _ hb=>by exact⟨_,(sj h),fun e=>by subst e;have h:=ho4;cases h;have h:=ho3;exact⟨_,(sj h),fun e=>by subst e;have h:=ho2;cases h;have h:=ho1;cases h;exact hb⟩⟩) rfl (.t1 (.tmp rfl)) (.refl _) trivial trivial
             ·replace h:=ae c53 h;refine .cA rfl c53 ?_;refine .skip (fun _ _ hs=>⟨(),(sj h),hs.sub (.of rfl) (.of rfl) rfl rfl⟩)
            ·replace h:=ae c46 h;refine .dh cn (.mv rfl<|.mv rfl<|.cm rfl rfl rfl<|.mv rfl<|.gy c36<|.mv rfl<|.gy c36<|.mv rfl<|.gy c36<|.kX rfl rfl aC (ag e38).1 (ag e38).2<|.gy c36<|.iJ rfl aH<|.gy c36<|.mv rfl<|.gy c36<|.kX rfl rfl aT (ag e40).1 (ag e40).2<|.gy c36<|.zU (l:=qC (v39)) rfl aa rfl<|.gy c36<|.ah (i5 e42) ⟨rfl,trivial⟩ trivial trivial<|.gy c36<|.ah (nA e44) ⟨rfl,rfl,trivial⟩ trivial trivial<|.gy c36<|.cm rfl rfl rfl<|.bm rfl c36 rfl<|.mv rfl<|.gz c45<|.mv rfl<|.gz c45<|.mv rfl<|.gz c45<|.cm rfl rfl rfl<|.gz c45<|.mv rfl<|.gm c46<|.gm c46<|.gm c46<|.gm c46<|.gm c46<|.gm c46<|.gm c46<|.gm c46<|.gm c46<|.gz c45<|.bh rfl c46 rfl<|.bh rfl c45 rfl<|.nil) rfl (by kernel_rfl) ?_;refine .cA rfl (by decide) ?_;refine .skip (fun _ _ hs=>⟨(),(sj h),hs.sub (.of rfl) (.of rfl) rfl rfl⟩)
          ·replace h:=ae c36 h;by_cases c54:(v20 !=v28)=true
           ·replace h:=ab c54 h;obtain⟨v55,e56,h⟩:=bind_some h;obtain⟨v57,e58,h⟩:=bind_some h;obtain⟨v59,e60,h⟩:=bind_some h;refine .dh cn (.mv rfl<|.mv rfl<|.cm rfl rfl rfl<|.mv rfl<|.gm c36<|.gm c36<|.gm c36<|.gm c36<|.gm c36<|.gm c36<|.gm c36<|.gm c36<|.gm c36<|.gm c36<|.bh rfl c36 rfl<|.mv rfl<|.D9<|.mv rfl<|.D9<|.mv rfl<|.D9<|.cm rfl rfl rfl<|.D9<|.mv rfl<|.gy c54<|.mv rfl<|.gy c54<|.mv rfl<|.gy c54<|.kX rfl rfl aC (ag e56).1 (ag e56).2<|.gy c54<|.iJ rfl aH<|.gy c54<|.mv rfl<|.gy c54<|.kX rfl rfl aT (ag e58).1 (ag e58).2<|.gy c54<|.zU (l:=qC (v57)) rfl aa rfl<|.gy c54<|.ah (pz e60) ⟨rfl,trivial⟩ trivial trivial<|.gy c54<|.cm rfl rfl rfl<|.D9<|.bm rfl c54 rfl<|.bh rfl (by decide) rfl<|.nil) rfl (by kernel_rfl) ?_;by_cases c61:(v59 !=0)=true
            ·replace h:=ab c61 h;refine .cq rfl c61 ?_;refine .al (.ao rfl<|.nil) rfl ?_;cases h;have h:=ho5;refine .aN (Hi:=[]) (Ho:=[]) (b:=b) (fn:=Go.Proofs.Tryz.f139) (d:=D.bool false) (fun _ _ hb=>by exact⟨_,(sj h),fun e=>by subst e;have h:=ho4;cases h;have h:=ho3;exact⟨_,(sj h),fun e=>by subst e;have h:=ho2;cases h;have h:=ho1;cases h;exact hb⟩⟩) rfl (.t1 (.tmp rfl)) (.refl _) trivial trivial
            ·replace h:=ae c61 h;refine .cA rfl c61 ?_;refine .skip (fun _ _ hs=>⟨(),(sj h),hs.sub (.of rfl) (.of rfl) rfl rfl⟩)
           ·replace h:=ae c54 h;refine .dh cn (.mv rfl<|.mv rfl<|.cm rfl rfl rfl<|.mv rfl<|.gm c36<|.gm c36<|.gm c36<|.gm c36<|.gm c36<|.gm c36<|.gm c36<|.gm c36<|.gm c36<|.gm c36<|.bh rfl c36 rfl<|.mv rfl<|.D9<|.mv rfl<|.D9<|.mv rfl<|.D9<|.cm rfl rfl rfl<|.D9<|.mv rfl<|.gm c54<|.gm c54<|.gm c54<|.gm c54<|.gm c54<|.gm c54<|.gm c54<|.gm c54<|.gm c54<|.D9<|.bh rfl c54 rfl<|.bh rfl (by decide) rfl<|.nil) rfl (by kernel_rfl) ?_;refine .cA rfl (by decide) ?_;refine .skip (fun _ _ hs=>⟨(),(sj h),hs.sub (.of rfl) (.of rfl) rfl rfl⟩)
         ·rintro⟨⟩ rfl
          try dsimp only
          refine .region (.mv rfl<|.ar rfl rfl rfl<|.ao rfl<|.nil) rfl (fun _ _ hs=>⟨(IntKind.i64.wrap (v28+1)),(sj h),hs.sub (.of rfl) (.of rfl) rfl rfl⟩)
        ·replace h:=ae c33 h;refine .cA rfl c33 ?_;refine .exit (fun a w hs=>⟨_,(sj h),fun e=>by subst e;have h:=ho4;exact aZ (⟨(),(sj h),hs.sub (.of rfl) (.of rfl) rfl rfl⟩)⟩)
       ·rintro⟨⟩ rfl
        try dsimp only
        refine .region (.mv rfl<|.ar rfl rfl rfl<|.ao rfl<|.nil) rfl (fun _ _ hs=>⟨(IntKind.i64.wrap (v20+1)),(sj h),hs.sub (.of rfl) (.of rfl) rfl rfl⟩)
      ·replace h:=ae c25 h;refine .cA rfl c25 ?_;refine .exit (fun a w hs=>⟨_,(sj h),fun e=>by subst e;have h:=ho2;exact aZ (⟨(),(sj h),hs.sub (.of rfl) (.of rfl) rfl rfl⟩)⟩)
    ·replace h:=ae c15 h;refine .cA rfl c15 ?_;refine .skip (fun _ _ hs=>⟨(),(sj h),hs.sub (.of rfl) (.of rfl) rfl rfl⟩)
   ·rintro⟨⟩ rfl
    try dsimp only
    obtain⟨⟨v66,v67⟩,e68,h⟩:=bind_some h;refine .al (.mv rfl<|.ah (z_ e68) ⟨rfl,trivial⟩ trivial trivial<|.mv rfl<|.ext rfl rfl<|.ext rfl rfl<|.ao rfl<|.ao rfl<|.nil) rfl ?_;obtain⟨⟨v69,v70⟩,e71,h⟩:=bind_some h;refine .al (.mv rfl<|.ah (DY e71) ⟨rfl,trivial⟩ trivial trivial<|.mv rfl<|.ext rfl rfl<|.ext rfl rfl<|.fW (qC (0)) az ⟨k8,k_,kZ,trivial⟩ rfl<|.cH (qC (v69)) rfl rfl rfl aa rfl rfl rfl<|.ao rfl<|.nil) rfl ?_;obtain⟨⟨v72,v73⟩,e74,h⟩:=bind_some h;refine .al (.mv rfl<|.mv rfl<|.ah (FT e74) ⟨rfl,rfl,trivial⟩ trivial trivial<|.mv rfl<|.ext rfl rfl<|.ext rfl rfl<|.ao rfl<|.ao rfl<|.nil) rfl ?_;refine .sq ?_;by_cases c75:(v70 !=0)=true
    ·replace h:=ab c75 h;refine .al (.mv rfl<|.cm rfl rfl rfl<|.mv rfl<|.gk c75<|.gk c75<|.bm rfl c75 rfl<|.mv rfl<|.gk rfl<|.gk rfl<|.gk rfl<|.gk rfl<|.gk rfl<|.bm rfl rfl rfl<|.nil) rfl ?_;refine .cq rfl rfl ?_;refine .al (.ao rfl<|.nil) rfl ?_;cases h;refine .aN (fun _ _ hb=>hb) rfl (.t1 (.tmp rfl)) (.refl _) trivial trivial
    ·replace h:=ae c75 h;by_cases c76:(v73 !=0)=true
     ·replace h:=ab c76 h;refine .al (.mv rfl<|.cm rfl rfl rfl<|.mv rfl<|.gz c75<|.mv rfl<|.gz c75<|.cm rfl rfl rfl<|.bh rfl c75 rfl<|.mv rfl<|.gk c76<|.gk c76<|.gk c76<|.gk c76<|.gk c76<|.bm rfl c76 rfl<|.nil) rfl ?_;refine .cq rfl rfl ?_;refine .al (.ao rfl<|.nil) rfl ?_;cases h;refine .aN (fun _ _ hb=>hb) rfl (.t1 (.tmp rfl)) (.refl _) trivial trivial
     ·replace h:=ae c76 h;refine .al (.mv rfl<|.cm rfl rfl rfl<|.mv rfl<|.gz c75<|.mv rfl<|.gz c75<|.cm rfl rfl rfl<|.bh rfl c75 rfl<|.mv rfl<|.gz c76<|.mv rfl<|.gz c76<|.fU rfl bn<|.gz c76<|.mv rfl<|.gz c76<|.fU rfl bn<|.gz c76<|.cm rfl rfl rfl<|.bh rfl c76 rfl<|.nil) rfl ?_;by_cases c77:((a1.length:Int) !=(v66.length:Int))=true
      ·replace h:=ab c77 h;refine .cq rfl c77 ?_;refine .al (.ao rfl<|.nil) rfl ?_;cases h;refine .aN (fun _ _ hb=>hb) rfl (.t1 (.tmp rfl)) (.refl _) trivial trivial
      ·replace h:=ae c77 h;refine .cA rfl c77 ?_;refine .skip (Ok.on ?_);obtain⟨⟨v78,v79⟩,e80,h⟩:=bind_some h;refine .al (.mv rfl<|.ah (DY e80) ⟨rfl,trivial⟩ trivial trivial<|.mv rfl<|.ext rfl rfl<|.ext rfl rfl<|.fW (qC (0)) az ⟨k8,k_,kZ,trivial⟩ rfl<|.cH (qC (v78)) rfl rfl rfl aa rfl rfl rfl<|.ao rfl<|.nil) rfl ?_;by_cases c81:(v79==0)=true
       ·replace h:=ab c81 h;obtain⟨v82,e83,h⟩:=bind_some h;obtain⟨v84,e85,h⟩:=bind_some h;refine .dh cn (.mv rfl<|.cm rfl rfl rfl<|.mv rfl<|.gy c81<|.cb (qC (v78)) rfl rfl aa rfl rfl<|.gy c81<|.cb (qC (v3)) rfl rfl aa rfl rfl<|.gy c81<|.cb (qC (v69)) rfl rfl aa rfl rfl<|.gy c81<|.ah (lA e83) ⟨rfl,rfl,trivial⟩ trivial trivial<|.gy c81<|.ah (Cx e85) ⟨rfl,rfl,trivial⟩ trivial trivial<|.bm rfl c81 rfl<|.ao rfl<|.nil) rfl (by kernel_rfl) ?_;cases h;refine .aN (fun _ _ hb=>hb) rfl (.t1 (.tmp rfl)) (.refl _) trivial trivial
       ·replace h:=ae c81 h;refine .dh cn (.mv rfl<|.cm rfl rfl rfl<|.mv rfl<|.gm c81<|.gm c81<|.gm c81<|.gm c81<|.gm c81<|.bh rfl c81 rfl<|.ao rfl<|.nil) rfl (by kernel_rfl) ?_;cases h;refine .aN (fun _ _ hb=>hb) rfl (.t1 (.tmp rfl)) (.refl _) trivial trivial
def bH(v20:List (List Rat))(v26:Rat)(v29:List Rat)(v36:List Rat)(v37:List (List Rat))(v44:Int):Option (St Int (Ex Unit Bool)):=(if(decide (v44<(v37.length:Int)))=true then((if(decide (v44>=0))=true then(ix v37 v44).bind fun v53=>(ku v53 v26 v36).bind fun v55=>some (v55)else some (v36))).bind fun v57=>(iK v20 v57).bind fun(v58,v59)=>(if(v59 !=0)=true then some (St.done (Ex.ret false))else(mz v58 v29).bind fun v62=>(if(!v62)=true then some (St.done (Ex.ret false))else some (St.next (IntKind.i64.wrap (v44+1)))))else some (St.done (Ex.cp ())))
def fD(a1:List (List (Int×Int×Int)))(a2:List (List (Int×Int×Int)))(a3:List (Int×Int×Int))(a4:Int)(a5:Int)(a6:Int):Option Bool:=(km a1 4).bind fun v7=>(if(!v7)=true then(iz).bind fun v10=>some v10 else(km a2 4).bind fun v12=>(if(!v12)=true then(iz).bind fun v15=>some v15 else(if(decide ((a3.length:Int)>5))=true then(iz).bind fun v18=>some v18 else(mI a1).bind fun(v20,v21)=>(mg a3).bind fun(v23,v24)=>(lZ a4 a5 a6).bind fun(v26,v27)=>(iK v20 v23).bind fun(v29,v30)=>(if(v30 !=0)=true then(if(v30==2)=true then(iz).bind fun v34=>some v34 else some false)else(oI v20 v29).bind fun(v36,v37,v38)=>(if(v38 !=0)=true then some false else(if((v36.length:Int) !=(v23.length:Int))=true then some false else((Loop (fun(s:Int)=>bH v20 v26 v29 v36 v37 s) (-1)).bind fun o45=>(match o45 with|Ex.cp ()=>some (Ex.cp ())|Ex.ret r65=>some (Ex.ret r65))).bind fun o42=>(match o42 with|Ex.cp ()=>(mE v37).bind fun(v66,v67,v68)=>bO ((([]:List (List Rat)).length+v37.length)*24<=140737488355328/\([]:List (List Rat)).length+v37.length<=9223372036854775807) ((fh (-1)).bind fun v71=>(ku v36 v71 v23).bind fun v73=>bO (((([]:List (List Rat))++v37).length+([v73]).length)*24<=140737488355328/\(([]:List (List Rat))++v37).length+([v73]).length<=9223372036854775807) ((mE ((([]:List (List Rat))++v37)++[v73])).bind fun(v76,v77,v78)=>((if(decide ((v23.length:Int)>0))=true then(if((v67.length:Int) !=(v37.length:Int))=true then some (Ex.ret false)else(if((v77.length:Int) !=(v37.length:Int))=true then some (Ex.ret false)else some (Ex.cp ())))else some (Ex.cp ()))).bind fun o80=>(match o80 with|Ex.cp ()=>(nO v20 a2).bind fun v85=>(if v85=true then(iz).bind fun v88=>some v88 else some false)|Ex.ret r90=>some r90)))|Ex.ret r91=>some r91)))))))
theorem ph{a1:List (List (Int×Int×Int))}{a2:List (List (Int×Int×Int))}{a3:List (Int×Int×Int)}{a4:Int}{a5:Int}{a6:Int}{r92:Bool}(h:fD a1 a2 a3 a4 a5 a6=some r92):aW PP 20 [] [an (ak.slice (ak.prod (ak.int .i64) (ak.prod (ak.int .i64) (ak.int .u8)))) a1,an (ak.slice (ak.prod (ak.int .i64) (ak.prod (ak.int .i64) (ak.int .u8)))) a2,an (ak.prod (ak.int .i64) (ak.prod (ak.int .i64) (ak.int .u8))) a3,D.agg ([D.int .i64 a4,D.int .i64 a5,D.int .u8 a6])] [] (D.bool r92):=by
 unfold fD at h;refine .of Go.Proofs.Tryz.func20 rfl (by kernel_rfl) rfl rfl rfl rfl rfl rfl (fun A w0 L b=>?_);show Ok PP _ [(0,an (ak.slice (ak.prod (ak.int .i64) (ak.prod (ak.int .i64) (ak.int .u8)))) a1),(1,an (ak.slice (ak.prod (ak.int .i64) (ak.prod (ak.int .i64) (ak.int .u8)))) a2),(2,an (ak.prod (ak.int .i64) (ak.prod (ak.int .i64) (ak.int .u8))) a3),(3,D.agg ([D.int .i64 a4,D.int .i64 a5,D.int .u8 a6]))] [] _ _;refine .al (.j8 rfl rfl<|.ao rfl<|.nil) rfl ?_;refine .sq ?_;obtain⟨v7,e8,h⟩:=bind_some h;by_cases c9:(!v7)=true
 ·replace h:=ab c9 h;refine .al (.mv rfl<|.ah (mC e8) ⟨rfl,rfl,trivial⟩ trivial trivial<|.not rfl<|.mv rfl<|.gk c9<|.gk c9<|.gk c9<|.bm rfl c9 rfl<|.mv rfl<|.gk rfl<|.gk rfl<|.gk rfl<|.bm rfl rfl rfl<|.nil) rfl ?_;refine .cq rfl rfl ?_;obtain⟨v10,e11,h⟩:=bind_some h;refine .al (.ah (mh e11) trivial trivial trivial<|.ao rfl<|.nil) rfl ?_;cases h;refine .aN (fun _ _ hb=>hb) rfl (.t1 (.tmp rfl)) (.refl _) trivial trivial
 ·replace h:=ae c9 h;obtain⟨v12,e13,h⟩:=bind_some h;by_cases c14:(!v12)=true
  ·replace h:=ab c14 h;refine .al (.mv rfl<|.ah (mC e8) ⟨rfl,rfl,trivial⟩ trivial trivial<|.not rfl<|.mv rfl<|.gz c9<|.mv rfl<|.gz c9<|.ah (mC e13) ⟨rfl,rfl,trivial⟩ trivial trivial<|.gz c9<|.not rfl<|.bh rfl c9 rfl<|.mv rfl<|.gk c14<|.gk c14<|.gk c14<|.bm rfl c14 rfl<|.nil) rfl ?_;refine .cq rfl rfl ?_;obtain⟨v15,e16,h⟩:=bind_some h;refine .al (.ah (mh e16) trivial trivial trivial<|.ao rfl<|.nil) rfl ?_;cases h;refine .aN (fun _ _ hb=>hb) rfl (.t1 (.tmp rfl)) (.refl _) trivial trivial
  ·replace h:=ae c14 h;refine .al (.mv rfl<|.ah (mC e8) ⟨rfl,rfl,trivial⟩ trivial trivial<|.not rfl<|.mv rfl<|.gz c9<|.mv rfl<|.gz c9<|.ah (mC e13) ⟨rfl,rfl,trivial⟩ trivial trivial<|.gz c9<|.not rfl<|.bh rfl c9 rfl<|.mv rfl<|.gz c14<|.mv rfl<|.gz c14<|.fU rfl ik<|.gz c14<|.cm rfl rfl rfl<|.bh rfl c14 rfl<|.nil) rfl ?_;by_cases c17:(decide ((a3.length:Int)>5))=true
   ·replace h:=ab c17 h;refine .cq rfl c17 ?_;obtain⟨v18,e19,h⟩:=bind_some h;refine .al (.ah (mh e19) trivial trivial trivial<|.ao rfl<|.nil) rfl ?_;cases h;refine .aN (fun _ _ hb=>hb) rfl (.t1 (.tmp rfl)) (.refl _) trivial trivial
   ·replace h:=ae c17 h;refine .cA rfl c17 ?_;refine .skip (Ok.on ?_);obtain⟨⟨v20,v21⟩,e22,h⟩:=bind_some h;refine .al (.mv rfl<|.ah (z_ e22) ⟨rfl,trivial⟩ trivial trivial<|.mv rfl<|.ext rfl rfl<|.ext rfl rfl<|.ao rfl<|.ao rfl<|.nil) rfl ?_;obtain⟨⟨v23,v24⟩,e25,h⟩:=bind_some h;refine .al (.mv rfl<|.ah (yB e25) ⟨rfl,trivial⟩ trivial trivial<|.mv rfl<|.ext rfl rfl<|.ext rfl rfl<|.ao rfl<|.ao rfl<|.nil) rfl ?_;obtain⟨⟨v26,v27⟩,e28,h⟩:=bind_some h;refine .al (.cb ([D.int .i64 a4,D.int .i64 a5,D.int .u8 a6]) rfl rfl lF rfl rfl<|.ah (yd e28) ⟨rfl,trivial⟩ trivial trivial<|.mv rfl<|.ext rfl rfl<|.ext rfl rfl<|.fW (qC (0)) az ⟨k8,k_,kZ,trivial⟩ rfl<|.fW (rX (0)) cV ⟨Ih,Ic,.refl _,HJ,trivial⟩ rfl<|.cH (qC (v26)) rfl rfl rfl aa rfl rfl rfl<|.cH (rX (v27)) rfl rfl rfl aX rfl rfl rfl<|.nil) rfl ?_;obtain⟨⟨v29,v30⟩,e31,h⟩:=bind_some h;refine .al (.mv rfl<|.mv rfl<|.ah (AE e31) ⟨rfl,rfl,trivial⟩ trivial trivial<|.mv rfl<|.ext rfl rfl<|.ext rfl rfl<|.ao rfl<|.ao rfl<|.nil) rfl ?_;refine .sq ?_;refine .al (.mv rfl<|.cm rfl rfl rfl<|.nil) rfl ?_;by_cases c32:(v30 !=0)=true
    ·replace h:=ab c32 h;refine .cq rfl c32 ?_;by_cases c33:(v30==2)=true
     ·replace h:=ab c33 h;obtain⟨v34,e35,h⟩:=bind_some h;refine .al (.mv rfl<|.cm rfl rfl rfl<|.mv rfl<|.gy c33<|.ah (mh e35) trivial trivial trivial<|.bm rfl c33 rfl<|.ao rfl<|.nil) rfl ?_;cases h;refine .aN (fun _ _ hb=>hb) rfl (.t1 (.tmp rfl)) (.refl _) trivial trivial
     ·replace h:=ae c33 h;refine .al (.mv rfl<|.cm rfl rfl rfl<|.mv rfl<|.gm c33<|.bh rfl c33 rfl<|.ao rfl<|.nil) rfl ?_;cases h;refine .aN (fun _ _ hb=>hb) rfl (.t1 (.tmp rfl)) (.refl _) trivial trivial
    ·replace h:=ae c32 h;refine .cA rfl c32 ?_;refine .skip (Ok.on ?_);obtain⟨⟨v36,v37,v38⟩,e39,h⟩:=bind_some h;refine .al (.mv rfl<|.mv rfl<|.ah (Eg e39) ⟨rfl,rfl,trivial⟩ trivial trivial<|.mv rfl<|.ext rfl rfl<|.ext rfl rfl<|.ext rfl rfl<|.ao rfl<|.ao rfl<|.ao rfl<|.nil) rfl ?_;refine .sq ?_;by_cases c40:(v38 !=0)=true
     ·replace h:=ab c40 h;refine .al (.mv rfl<|.cm rfl rfl rfl<|.mv rfl<|.gk c40<|.gk c40<|.gk c40<|.gk c40<|.gk c40<|.bm rfl c40 rfl<|.nil) rfl ?_;refine .cq rfl rfl ?_;refine .al (.ao rfl<|.nil) rfl ?_;cases h;refine .aN (fun _ _ hb=>hb) rfl (.t1 (.tmp rfl)) (.refl _) trivial trivial
     ·replace h:=ae c40 h;refine .al (.mv rfl<|.cm rfl rfl rfl<|.mv rfl<|.gz c40<|.mv rfl<|.gz c40<|.fU rfl cr<|.gz c40<|.mv rfl<|.gz c40<|.fU rfl cr<|.gz c40<|.cm rfl rfl rfl<|.bh rfl c40 rfl<|.nil) rfl ?_;by_cases c41:((v36.length:Int) !=(v23.length:Int))=true
      ·replace h:=ab c41 h;refine .cq rfl c41 ?_;refine .al (.ao rfl<|.nil) rfl ?_;cases h;refine .aN (fun _ _ hb=>hb) rfl (.t1 (.tmp rfl)) (.refl _) trivial trivial
      ·replace h:=ae c41 h;refine .cA rfl c41 ?_;refine .skip (Ok.on ?_);obtain⟨o42,hp43,h⟩:=bind_some h;refine .cz (fun i=>o42=Ex.cp i) (fun(i:Unit)=>[(1,an (ak.slice (ak.prod (ak.int .i64) (ak.prod (ak.int .i64) (ak.int .u8)))) a2),(9,an (ak.slice ak.rat) v20),(11,an ak.rat v23),(17,an ak.rat v36),(18,an (ak.slice ak.rat) v37)]) (fun(i:Unit)=>[]) ?_ ?_
       ·have ho1:=h;have h:=hp43;refine .al (.ao rfl<|.nil) rfl ?_;obtain⟨o45,hl46,h⟩:=bind_some h;have ho2:=h;refine .block (.cc (fun(s:Int)=>[(1,an (ak.slice (ak.prod (ak.int .i64) (ak.prod (ak.int .i64) (ak.int .u8)))) a2),(9,an (ak.slice ak.rat) v20),(11,an ak.rat v23),(13,D.ref 13 0),(15,an ak.rat v29),(17,an ak.rat v36),(18,an (ak.slice ak.rat) v37),(20,D.int .i64 s)]) (fun(s:Int)=>[(13,Hp.box 28 (qC (v26)))]) hl46 (.of rfl) (.of rfl) rfl rfl ?_);rintro v44 st47 hb48;have h:bH v20 v26 v29 v36 v37 v44=some st47:=hb48;unfold bH at h
        try dsimp only
        refine .sq ?_;refine .al (.mv rfl<|.mv rfl<|.fU rfl bn<|.cm rfl rfl rfl<|.nil) rfl ?_;by_cases c49:(decide (v44<(v37.length:Int)))=true
        ·replace h:=ab c49 h;refine .cq rfl c49 ?_;refine .skip (Ok.on ?_);refine .sq ?_;refine .block ?_;refine .al (.mv rfl<|.ao rfl<|.nil) rfl ?_;obtain⟨v57,hp51,h⟩:=bind_some h;refine .cz (fun i=>v57=i) (fun(i:(List Rat))=>[(1,an (ak.slice (ak.prod (ak.int .i64) (ak.prod (ak.int .i64) (ak.int .u8)))) a2),(9,an (ak.slice ak.rat) v20),(11,an ak.rat v23),(13,D.ref 13 0),(15,an ak.rat v29),(17,an ak.rat v36),(18,an (ak.slice ak.rat) v37),(20,D.int .i64 v44),(21,an ak.rat i)]) (fun(i:(List Rat))=>[(13,Hp.box 28 (qC (v26)))]) ?_ ?_
         ·have ho3:=h;have h:=hp51;refine .al (.mv rfl<|.cm rfl rfl rfl<|.nil) rfl ?_;by_cases c52:(decide (v44>=0))=true
          ·replace h:=ab c52 h;refine .cq rfl c52 ?_;obtain⟨v53,e54,h⟩:=bind_some h;obtain⟨v55,e56,h⟩:=bind_some h;refine .de cn (.mv rfl<|.mv rfl<|.kX rfl rfl aC (ag e54).1 (ag e54).2<|.iJ rfl aH<|.cb (qC (v26)) rfl rfl aa rfl rfl<|.mv rfl<|.ah (uR e56) ⟨rfl,rfl,rfl,trivial⟩ trivial trivial<|.ao rfl<|.nil) rfl (by kernel_rfl) (fun _ _ hs=>⟨v55,(sj h),hs.sub (.of rfl) (.of rfl) rfl rfl⟩)
          ·replace h:=ae c52 h;refine .cA rfl c52 ?_;refine .skip (fun _ _ hs=>⟨v36,(sj h),hs.sub (.of rfl) (.of rfl) rfl rfl⟩)
         ·rintro _ rfl
          try dsimp only
          obtain⟨⟨v58,v59⟩,e60,h⟩:=bind_some h;refine .al (.mv rfl<|.mv rfl<|.ah (AE e60) ⟨rfl,rfl,trivial⟩ trivial trivial<|.mv rfl<|.ext rfl rfl<|.ext rfl rfl<|.ao rfl<|.ao rfl<|.nil) rfl ?_;by_cases c61:(v59 !=0)=true
          ·replace h:=ab c61 h;refine .al (.mv rfl<|.cm rfl rfl rfl<|.mv rfl<|.gk c61<|.gk c61<|.gk c61<|.gk c61<|.bm rfl c61 rfl<|.nil) rfl ?_;refine .cq rfl rfl ?_;refine .al (.ao rfl<|.nil) rfl ?_;refine .aN (Hi:=[]) (Ho:=[]) (b:=b) (fn:=Go.Proofs.Tryz.f20) (d:=D.bool false) (fun _ _ hb=>by exact⟨_,(sj h),fun e=>by subst e;have h:=ho2;cases h;have h:=ho1;cases h;exact hb⟩) rfl (.t1 (.tmp rfl)) (.refl _) trivial trivial
          ·replace h:=ae c61 h;obtain⟨v62,e63,h⟩:=bind_some h;refine .al (.mv rfl<|.cm rfl rfl rfl<|.mv rfl<|.gz c61<|.mv rfl<|.gz c61<|.mv rfl<|.gz c61<|.ah (BX e63) ⟨rfl,rfl,trivial⟩ trivial trivial<|.gz c61<|.not rfl<|.bh rfl c61 rfl<|.nil) rfl ?_;by_cases c64:(!v62)=true
           ·replace h:=ab c64 h;refine .cq rfl c64 ?_;refine .al (.ao rfl<|.nil) rfl ?_;refine .aN (Hi:=[]) (Ho:=[]) (b:=b) (fn:=Go.Proofs.Tryz.f20) (d:=D.bool false) (fun _ _ hb=>by exact⟨_,(sj h),fun e=>by subst e;have h:=ho2;cases h;have h:=ho1;cases h;exact hb⟩) rfl (.t1 (.tmp rfl)) (.refl _) trivial trivial
           ·replace h:=ae c64 h;refine .cA rfl c64 ?_;refine .skip (Ok.on ?_);refine .region (.mv rfl<|.ar rfl rfl rfl<|.ao rfl<|.nil) rfl (fun _ _ hs=>⟨(IntKind.i64.wrap (v44+1)),(sj h),hs.sub (.of rfl) (.of rfl) rfl rfl⟩)
        ·replace h:=ae c49 h;refine .cA rfl c49 ?_;refine .exit (fun a w hs=>⟨_,(sj h),fun e=>by subst e;have h:=ho2;exact aZ (⟨(),(sj h),hs.sub (.of rfl) trivial rfl rfl⟩)⟩)
       ·rintro⟨⟩ rfl
        try dsimp only
        obtain⟨⟨v66,v67,v68⟩,e69,h⟩:=bind_some h;refine .al (.mv rfl<|.ah (CU e69) ⟨rfl,trivial⟩ trivial trivial<|.mv rfl<|.ext rfl rfl<|.ext rfl rfl<|.ext rfl rfl<|.ao rfl<|.ao rfl<|.ao rfl<|.nil) rfl ?_;obtain⟨k70,h⟩:=ax h;obtain⟨v71,e72,h⟩:=bind_some h;obtain⟨v73,e74,h⟩:=bind_some h;obtain⟨k75,h⟩:=ax h;obtain⟨⟨v76,v77,v78⟩,e79,h⟩:=bind_some h;refine .al (.G4 (ak.slice ak.rat) bX rfl rfl<|.mv rfl<|.xi (ys:=v37) rfl (.refl _) rfl (.refl _) rfl bX rfl k70.1 k70.2 rfl<|.mv rfl<|.ah (i5 e72) ⟨rfl,trivial⟩ trivial trivial<|.mv rfl<|.ah (uR e74) ⟨rfl,rfl,rfl,trivial⟩ trivial trivial<|.yO (e:=(ak.slice ak.rat)) [v73] [(0,_,an ak.rat v73,[an ak.rat v73])] bX rfl rfl rfl ⟨rfl,rfl,.one rfl,rfl,trivial⟩ ⟨rfl,trivial⟩ rfl rfl<|.gv (e:=(ak.slice ak.rat)) (xs:=((([]:List (List Rat))++v37)++[v73])) (.xi (ys:=[v73]) rfl (.refl _) rfl (.refl _) rfl bX rfl k75.1 k75.2 rfl<|.nil) rfl rfl rfl rfl<|.ah (CU e79) ⟨rfl,trivial⟩ trivial trivial<|.mv rfl<|.ext rfl rfl<|.ext rfl rfl<|.ext rfl rfl<|.ao rfl<|.ao rfl<|.ao rfl<|.nil) rfl ?_;obtain⟨o80,hp81,h⟩:=bind_some h;refine .cz (fun i=>o80=Ex.cp i) (fun(i:Unit)=>[(1,an (ak.slice (ak.prod (ak.int .i64) (ak.prod (ak.int .i64) (ak.int .u8)))) a2),(9,an (ak.slice ak.rat) v20)]) (fun(i:Unit)=>[]) ?_ ?_
        ·have ho1:=h;have h:=hp81;by_cases c82:(decide ((v23.length:Int)>0))=true
         ·replace h:=ab c82 h;by_cases c83:((v67.length:Int) !=(v37.length:Int))=true
          ·replace h:=ab c83 h;refine .al (.mv rfl<|.fU rfl cr<|.cm rfl rfl rfl<|.mv rfl<|.gy c82<|.mv rfl<|.gy c82<|.fU rfl bI<|.gy c82<|.mv rfl<|.gy c82<|.fU rfl bn<|.gy c82<|.cm rfl rfl rfl<|.gy c82<|.mv rfl<|.gk c83<|.gk c83<|.gk c83<|.gk c83<|.gk c83<|.gy c82<|.bm rfl c83 rfl<|.bm rfl c82 rfl<|.nil) rfl ?_;refine .cq rfl rfl ?_;refine .al (.ao rfl<|.nil) rfl ?_;cases h;have h:=ho1;cases h;refine .aN (fun _ _ hb=>hb) rfl (.t1 (.tmp rfl)) (.refl _) trivial trivial
          ·replace h:=ae c83 h;refine .al (.mv rfl<|.fU rfl cr<|.cm rfl rfl rfl<|.mv rfl<|.gy c82<|.mv rfl<|.gy c82<|.fU rfl bI<|.gy c82<|.mv rfl<|.gy c82<|.fU rfl bn<|.gy c82<|.cm rfl rfl rfl<|.gy c82<|.mv rfl<|.gz c83<|.mv rfl<|.gz c83<|.fU rfl bI<|.gz c83<|.mv rfl<|.gz c83<|.fU rfl bn<|.gz c83<|.cm rfl rfl rfl<|.gy c82<|.bh rfl c83 rfl<|.bm rfl c82 rfl<|.nil) rfl ?_;by_cases c84:((v77.length:Int) !=(v37.length:Int))=true
           ·replace h:=ab c84 h;refine .cq rfl c84 ?_;refine .al (.ao rfl<|.nil) rfl ?_;cases h;have h:=ho1;cases h;refine .aN (fun _ _ hb=>hb) rfl (.t1 (.tmp rfl)) (.refl _) trivial trivial
           ·replace h:=ae c84 h;refine .cA rfl c84 ?_;refine .skip (fun _ _ hs=>⟨(),(sj h),hs.sub (.of rfl) trivial rfl rfl⟩)
         ·replace h:=ae c82 h;refine .al (.mv rfl<|.fU rfl cr<|.cm rfl rfl rfl<|.mv rfl<|.gm c82<|.gm c82<|.gm c82<|.gm c82<|.gm c82<|.gm c82<|.gu<|.gu<|.gu<|.gu<|.gu<|.gm c82<|.bh rfl c82 rfl<|.nil) rfl ?_;refine .cA rfl (by decide) ?_;refine .skip (fun _ _ hs=>⟨(),(sj h),hs.sub (.of rfl) trivial rfl rfl⟩)
        ·rintro⟨⟩ rfl
         try dsimp only
         obtain⟨v85,e86,h⟩:=bind_some h;by_cases c87:v85=true
         ·replace h:=ab c87 h;obtain⟨v88,e89,h⟩:=bind_some h;refine .al (.mv rfl<|.mv rfl<|.ah (xq e86) ⟨rfl,rfl,trivial⟩ trivial trivial<|.mv rfl<|.gy c87<|.ah (mh e89) trivial trivial trivial<|.bm rfl c87 rfl<|.ao rfl<|.nil) rfl ?_;cases h;refine .aN (fun _ _ hb=>hb) rfl (.t1 (.tmp rfl)) (.refl _) trivial trivial
         ·replace h:=ae c87 h;refine .al (.mv rfl<|.mv rfl<|.ah (xq e86) ⟨rfl,rfl,trivial⟩ trivial trivial<|.mv rfl<|.gm c87<|.bh rfl c87 rfl<|.ao rfl<|.nil) rfl ?_;cases h;refine .aN (fun _ _ hb=>hb) rfl (.t1 (.tmp rfl)) (.refl _) trivial trivial
end
end Go.Am
namespace Go.Am
variable {n m k:Nat} {g:Nat->Nat->Rat} {pv:List Int}
theorem Gb{c:Nat}{F:Nat->Rat}{j:Nat}(hj:j<c):((List.range c).map F).getD j 0=F j:=by
 rw[dM (by simpa using hj)];simp
theorem AB{c B:Nat}{F:Nat->Rat}(hF:∀j,sz (F j)<=B)(hB:1<=B)(j:Nat):sz (((List.range c).map F).getD j 0)<=B:=by
 by_cases h:j<c
 ·rw[Gb h];exact hF j
 ·rw[jG (by simp;omega)];exact Nat.le_trans (show sz (0:Rat)<=1 by decide+kernel) hB
theorem vH{c B:Nat}{F G:Nat->Rat}{t:Rat}(hc:c<=30)(hF:∀j,sz (F j)<=B)(hG:∀j,sz (G j)<=B)(ht:sz t<=B)(hB:B<=10000000000):
  ku ((List.range c).map F) t ((List.range c).map G)=some ((List.range c).map fun j=>F j*t+G j):=by
 unfold ku;have hL:=dG (body:=fun(s:Int×(List Rat))=>fv ((List.range c).map F) t ((List.range c).map G) s.1 s.2) c (fun i=>(List.range i).map fun j=>F j*t+G j) ((List.range c).map fun j=>F j*t+G j) (fun i hi=>by
  unfold fv;have h1:=hF i;have h2:=hG i;have h3:=gQ (F i) t;rw[if_pos (decide_eq_true (by simp;omega)),eO hi,Option.bind_some,jL (by unfold dv;omega) (by unfold dv;omega),Option.bind_some,eO hi,Option.bind_some,x9 (by unfold dv;omega) (by unfold dv;omega),Option.bind_some,aG (by simp only[List.length_map,List.length_range,List.length_singleton];omega),ct hi (by omega),ml]) (by
  unfold fv;rw[if_neg (by simp)])
 have:Loop (fun(s:Int×(List Rat))=>fv ((List.range c).map F) t ((List.range c).map G) s.1 s.2) (0,([]:List Rat))=_:=hL;rw[this];rfl
theorem Dg(l:List Rat)(hl:l.length<=30)(h:∀i,sz (l.getD i 0)<=400000000000):mz l l=some true:=by
 unfold mz;rw[if_neg (by simp)];have hL:=qF (body:=fun(s:Int)=>gG l l s) l.length (Ex.cp ()) (fun i hi=>by
  unfold gG;have h1:=h i;rw[dM hi]at h1;rw[if_pos (decide_eq_true (by omega)),dT hi,Option.bind_some,Option.bind_some,s9 (show dv l[i]from h1) (show dv l[i]from h1),Option.bind_some,if_neg (by rw[oK.2 rfl];decide),ct hi (by omega)]) (by
  unfold gG;rw[if_neg (by simp)])
 rw[hL];rfl
theorem AH{M:List (List Rat)}{F:Nat->Rat}{b:List Rat}{B:Nat}(h:right M=true)(hl:M.length<=30)(hc:aJ M<=30)(hM:bd M B)(hF:∀j,sz (F j)<=B)(hB:1<=B)(hB2:B<=100000000)(hb:b.length=M.length)
  (he:∀i,i<M.length->bK (List.range (aJ M)) (fun j=>fZ M i j*F j)=b.getD i 0):iK M ((List.range (aJ M)).map F)=some (b,0):=by
 rw[(ym h hl (by simp) (by simpa using hc) hM (AB hF hB) hB hB2).1]
 congr 2
 apply List.ext_getElem
 ·simp[hb]
 ·intro i h1 h2;rw[List.length_map,List.length_range]at h1;simp only[List.getElem_map,List.getElem_range];rw[l_,bw (h:=fun j=>fZ M i j*F j) (fun j hj=>by rw[Gb (List.mem_range.1 hj)]),he i h1,dM h2]
theorem D5(h:Rr n k g pv):∀p (hp:p<pv.length),(p:Int)<=pv[p]:=by
 intro p
 induction p with
 |zero=>
  intro hp;obtain⟨q,e1,_⟩:=h.bY 0 hp;omega
 |succ p ih=>
  intro hp;have h1:=ih (by omega);have h2:=List.pairwise_iff_getElem.1 h.D8 p (p+1) (by omega) hp (by omega);omega
theorem Gv(h:Rr n k g pv):∀d p (hp:p+d<pv.length),pv[p]'(by omega)+(d:Int)<=pv[p+d]:=by
 intro d
 induction d with
 |zero=>intro p hp;simp
 |succ d ih=>
  intro p hp;have h1:=ih p (by omega);have h2:=List.pairwise_iff_getElem.1 h.D8 (p+d) (p+(d+1)) (by omega) hp (by omega);omega
theorem FD(f:Nat->Nat->Rat)(hn:n<=4)(hf:ld f 300):(∀B,dg n (lL n f B)=dg n f*dg n B)/\
  ((∃R:Nat->Nat->Rat,gF (ay n n f)=some (ay n n R,0)/\dg n f≠0/\ld R 2000000/\∀i j,i<n->j<n->bK (List.range n) (fun l=>f i l*R l j)=if i=j then 1 else 0)\/
   (gF (ay n n f)=some ([],8)/\dg n f=0)):=by
 have h0:A6 n f (jj n f):=by
  have e:∀i j,i<n->j<n->jj n f i j=f i j:=fun i j _ hj=>by unfold jj;rw[if_pos hj]
  refine⟨1,by decide,?_,fun B=>?_⟩
  ·rw[kO (g:=f) hn e];grind
  ·rw[kO (f:=lL n (jj n f) B) (g:=lL n f B) hn (fun i j hi _=>bw fun l hl=>by rw[e i l hi (List.mem_range.1 hl)])];grind
 obtain⟨g,pv,⟨k',hk',hJ,hdJ⟩,hR,hlen,_,hnul,hI⟩:=Ec f (show n<=6 by omega) hf (xy.and (BJ hn f)) ⟨yG,h0⟩;rcases hI with⟨e1,_,hp⟩|⟨e1,_,hn0,hp⟩
 ·have hu:∀i j,i<n->j<n->g i j=if i=j then 1 else 0:=fun i j hi hj=>by
   have hpj:pv[j]'(by omega)=(j:Int):=by
    have h1:=D5 hJ j (by omega);have h2:=Gv hJ (n-1-j) j (by omega);have h3:=hp (by omega);have h4:j+(n-1-j)=n-1:=by omega
    simp only[h4]at h2;rw[List.getElem?_eq_getElem (by omega),Option.some.injEq]at h3;omega
   obtain⟨q,a1,a2,a3,_⟩:=hJ.bY j (by omega);have:q=j:=by omega
   subst this;exact a3 i hi
  obtain⟨d1,d2⟩:=BH hn hdJ hu;refine⟨d2,.inl ⟨fun i j=>g i (n+j),e1,d1,fun i j=>Nat.le_trans (hR.JK i _) (Nat.le_trans (D7 hn) (by decide)),fun i j hi hj=>?_⟩⟩;have hv:=(hnul (fun l=>if l<n then g l (n+j)else if l=n+j then-1 else 0)).1 (fun i hi=>by
   rw[iC List.nodup_range (List.mem_range.2 (show n+j<n+n by omega)),i6 List.nodup_range (List.mem_range.2 (show i<n+n by omega)) (fun l hl hne=>?_)]
   ·dsimp only;rw[if_neg (by omega),if_pos rfl,if_neg (by omega),if_pos hi,hu i i hi hi,if_pos rfl];grind
   ·by_cases e:l=n+j
    ·rw[if_pos e]
    ·rw[if_neg e];dsimp only;by_cases e2:l<n
     ·rw[hu i l hi e2,if_neg (Ne.symm hne)];grind
     ·rw[if_neg e2,if_neg e];grind) i hi
  have hs:bK (List.range (n+n)) (fun l=>jj n f i l*(if l<n then g l (n+j)else if l=n+j then-1 else 0))=bK (List.range n) (fun l=>f i l*g l (n+j))+(if i=j then-1 else 0):=by
   rw[iC List.nodup_range (List.mem_range.2 (show n+j<n+n by omega)),if_neg (by omega),if_pos rfl];have e2:jj n f i (n+j)=if i=j then 1 else 0:=by
    unfold jj;rw[if_neg (by omega)];by_cases e:i=j
    ·rw[if_pos e,if_pos (by omega)]
    ·rw[if_neg e,if_neg (by omega)]
   have e3:bK (List.range (n+n)) (fun l=>if l=n+j then 0 else jj n f i l*(if l<n then g l (n+j)else if l=n+j then-1 else 0))=bK (List.range n) (fun l=>f i l*g l (n+j)):=by
    rw[List.range_add,uq,gK (l:=(List.range n).map fun x=>n+x) (fun l hl=>by
     obtain⟨x,hx,rfl⟩:=List.mem_map.1 hl;by_cases e:n+x=n+j
     ·rw[if_pos e]
     ·rw[if_neg e,if_neg (by omega),if_neg e];grind)]
    rw[bw (h:=fun l=>f i l*g l (n+j)) (fun l hl=>by
     have hl:=List.mem_range.1 hl;rw[if_neg (by omega),if_pos hl];unfold jj;rw[if_pos hl])]
    grind
   rw[e2,e3];by_cases e:i=j
   ·rw[if_pos e,if_pos e];grind
   ·rw[if_neg e,if_neg e];grind
  rw[hs]at hv;by_cases e:i=j
  ·rw[if_pos e]at hv|-;grind
  ·rw[if_neg e]at hv|-;grind
 ·have hz:∀j,j<n->g (n-1) j=0:=fun j hj=>by
   obtain⟨q,a1,a2,a3,a4⟩:=hJ.bY (n-1) (by omega);have h1:=D5 hJ (n-1) (by omega);rw[List.getElem?_eq_getElem (by omega)]at hp;have h2:pv[n-1]'(by omega)≠((n-1:Nat):Int):=fun e=>hp (by rw[e]);exact a4 j (by omega)
  obtain⟨d1,d2⟩:=A7 hn hn0 hdJ hz;exact⟨d2,.inr ⟨e1,d1⟩⟩
theorem C8{F:Nat->Nat->Rat}(hn:n<=6)(h:∀i j,i<n->j<n->F i j=if i=j then 1 else 0):Loop (fun(s:Int)=>gA (ay n n F) s) 0=some (Ex.cp ()):=by
 refine qF (body:=fun(s:Int)=>gA (ay n n F) s) n (Ex.cp ()) (fun i hi=>?_) (by
  unfold gA;rw[aI,if_neg (by simp)])
 have h2:=qF (body:=fun(s:Int)=>iE (ay n n F) (i:Int) s) n (Ex.cp ()) (fun j hj=>by
  unfold iE;have hF:=h i j hi hj;rw[aI,if_pos (decide_eq_true (by omega))];by_cases e:i=j
  ·subst e;rw[if_pos rfl]at hF;rw[if_pos (by simp),cj hi,Option.bind_some,eO hi,Option.bind_some,n5,Option.bind_some,hF,s9 (show dv 1 by decide+kernel) (show dv 1 by decide+kernel),Option.bind_some,if_neg (by rw[oK.2 rfl];decide),if_neg (by simp),Option.bind_some];simp only;rw[ct hj (by omega)]
  ·rw[if_neg e]at hF;rw[if_neg (by simp;omega),if_pos (by simp;omega),cj hi,Option.bind_some,eO hj,Option.bind_some,hF,fm,Option.bind_some,if_neg (by decide+kernel),Option.bind_some];simp only;rw[ct hj (by omega)]) (by
  unfold iE;rw[aI,if_neg (by simp)])
 unfold gA;rw[aI,if_pos (decide_eq_true (by omega)),h2,Option.bind_some];simp only[Option.bind_some];rw[ct hi (by omega)]
theorem EF{M:List (List Rat)}{y:List (List (Int×Int×Int))}(hM:right M=true)(hl:M.length<=4)(hc:aJ M<=4)(bx:bd M 256)(hy:vX y)(ly:y.length<=4)(ry:∀r∈y,r.length<=4):nO M y=some true:=by
 unfold nO;by_cases hcn:aJ M=M.length
 ·have hf:ld (fZ M) 300:=fun i j=>Nat.le_trans (nC bx (by decide) i j) (by decide);have hgm:M=ay M.length M.length (fZ M):=by
   conv=>lhs;rw[Aa hM]
   rw[hcn]
  obtain⟨d1,_,d3⟩:=Cm (n:=M.length) (fZ M) (by omega) hf;rw[←hgm]at d1;obtain⟨hmul,hinv⟩:=FD (n:=M.length) (fZ M) hl hf;rw[←hgm]at hinv;rw[lX hl]at d1 d3;have hds:sz (dg M.length (fZ M))<=2000000:=Nat.le_trans d3 (Nat.le_trans (D7 hl) (by decide));rw[d1];simp only[Option.bind_some];rw[if_neg (by decide)]
  -- what is left behind the inverse
  have rest:((mI y).bind fun(v66,v67)=>(j5 v66).bind fun(v69,v70)=>(mw M v66).bind fun(v72,v73)=>(if(v70 !=0)=true then some true else(if(v73 !=0)=true then some true else(if((M.length:Int) !=(v66.length:Int))=true then some true else(j5 v72).bind fun(v78,v79)=>(if(v79==0)=true then(eJ (dg M.length (fZ M)) v69).bind fun v82=>(mA v78 v82).bind fun v84=>some v84 else some false)))))=some true:=by
   rw[DE y hy (by omega) (fun r hr=>by have:=ry r hr;omega)];simp only[Option.bind_some];have by':=xY hy
   have ny:(y.map cN).length<=4:=by simpa using ly
   have cy:aJ (y.map cN)<=4:=by
    unfold aJ;by_cases h0:0<y.length
    ·rw[dM (by simpa using h0)];have:=ry y[0] (List.getElem_mem h0);simpa [cN]using this
    ·rw[jG (by rw[List.length_map];omega)];exact Nat.zero_le _
   generalize y.map cN=N at*
   cases hN:right N with
   |false=>
    have e1:j5 N=some (0,2):=by
     unfold j5;rw[dO N (by omega),hN];rfl
    have e2:mw M N=some ([],2):=by
     unfold mw;rw[dO M (by omega),dO N (by omega),hM,hN];rfl
    rw[e1,Option.bind_some];simp only;rw[e2]
    rfl
   |true=>
   by_cases hcN:aJ N=N.length
   ·have hfN:ld (fZ N) 300:=fun i j=>Nat.le_trans (nC by' (by decide) i j) (by decide);have hgN:N=ay N.length N.length (fZ N):=by
     conv=>lhs;rw[Aa hN]
     rw[hcN]
    obtain⟨u1,_,u3⟩:=Cm (n:=N.length) (fZ N) (by omega) hfN;rw[←hgN]at u1;rw[u1];simp only[Option.bind_some];by_cases hnn:M.length=N.length
    ·rw[(zm hM hN (by omega) (by omega) (by omega) (by omega) bx by' (by decide) (by decide))];simp only[Option.bind_some];rw[if_neg (by decide),if_neg (by decide),if_neg (by simp[hnn])];have hp:ay M.length (aJ N) (ka M N (aJ M))=ay M.length M.length (ka M N (aJ M)):=by rw[hcN,hnn]
     have hps:ld (ka M N (aJ M)) 2060:=fun i j=>by
      have h1:=Dt (n:=aJ M) bx by' (by decide) i j
      have h2:aJ M*(2*256+2)<=4*(2*256+2):=Nat.mul_le_mul_right _ hc;unfold ka;omega
     have hpow:2060*8^M.length<=2060*8^4:=xm hl;have e84:2060*8^4=8437760:=by decide
     obtain⟨w1,_,w3⟩:=AJ (n:=M.length) (C:=2060) (by decide) (by omega) (ka M N (aJ M)) (by omega) hps;rw[hp,w1];simp only[Option.bind_some];have hus:sz (kh N.length (fZ N))<=2000000:=Nat.le_trans u3 (Nat.le_trans (D7 ny) (by decide));rw[if_pos (by decide),jL (by unfold dv;omega) (by unfold dv;omega),Option.bind_some];have hval:kh M.length (ka M N (aJ M))=dg M.length (fZ M)*kh N.length (fZ N):=by
      rw[lX hl,lX ny,←hnn,←hmul];refine kO hl fun i j _ _=>?_;unfold ka lL;rw[l_,hcn]
     rw[←hval,Bg (show dv _ from by unfold dv;omega)]
     rfl
    ·have e2:mw M N=some ([],2):=by
      unfold mw;rw[dO M (by omega),dO N (by omega),hM,hN];simp only[Option.bind_some,Bool.not_true,Bool.false_eq_true,if_false];rw[if_pos (by simp;omega)]
     rw[e2]
     rfl
   ·have e1:j5 N=some (0,2):=by
     unfold j5;rw[dO N (by omega),hN];simp only[Option.bind_some,Bool.not_true,Bool.false_eq_true,if_false];rw[if_pos (by simp;omega)]
    rw[e1];simp only[Option.bind_some];by_cases hcM:aJ M=N.length
    ·rw[(zm hM hN (by omega) (by omega) hcM (by omega) bx by' (by decide) (by decide))]
     rfl
    ·have e2:mw M N=some ([],2):=by
      unfold mw;rw[dO M (by omega),dO N (by omega),hM,hN];simp only[Option.bind_some,Bool.not_true,Bool.false_eq_true,if_false];rw[if_pos (by simp;omega)]
     rw[e2]
     rfl
  rcases hinv with⟨R,i1,i2,i3,i4⟩|⟨i1,i2⟩
  ·rw[i1];simp only[Option.bind_some];rw[fm,Option.bind_some,if_neg (by
    have:Be (dg M.length (fZ M))≠0:=fun h=>i2 (mP.1 h);simp[this]),if_pos (by decide)]
   have hMul:=zm (b:=2000000) hM (N:=ay M.length M.length R) kA (by omega) (by rw[aI];omega) (by rw[aI,hcn]) (by
    by_cases h0:M.length=0
    ·rw[h0];exact Nat.zero_le 30
    ·rw[lY (by omega)];omega) (fun r hr q hq=>Nat.le_trans (bx r hr q hq) (by decide)) (EO i3) (by decide) (by decide)
   have hcg:ay M.length (aJ (ay M.length M.length R)) (ka M (ay M.length M.length R) (aJ M))=ay M.length M.length (ka M (ay M.length M.length R) (aJ M)):=by
    by_cases h0:M.length=0
    ·rw[h0];rfl
    ·rw[lY (by omega)]
   rw[hMul,hcg];simp only[Option.bind_some];rw[if_neg (by decide),C8 (by omega) (fun i j hi hj=>by
    unfold ka;rw[l_,hcn,←i4 i j hi hj];exact bw fun l hl=>by rw[DZ (List.mem_range.1 hl) hj])]
   simp only[Option.bind_some];exact rest
  ·rw[i1];simp only[Option.bind_some];rw[fm,Option.bind_some,if_neg (by
    have:Be (dg M.length (fZ M))=0:=mP.2 i2;simp[this]),if_neg (by decide)]
   simp only[Option.bind_some];exact rest
 ·have e1:j5 M=some (0,2):=by
   unfold j5;rw[dO M (by omega),hM];simp only[Option.bind_some,Bool.not_true,Bool.false_eq_true,if_false];rw[if_pos (by simp;omega)]
  rw[e1]
  rfl
theorem ue(x y:List (List (Int×Int×Int)))(l:List (Int×Int×Int))(kn kd kp:Int)(hx:vX x)(hy:vX y)(hl:∀e∈l,qj e)(h1k:eM kn)(h2k:eM kd)(h3k:0<=kp/\kp<=255):fD x y l kn kd kp=some true:=by
 unfold fD;have s1:=xR x 4 (by omega);have s2:=xR y 4 (by omega);have c5:((4:Nat):Int)=4:=rfl;rw[c5]at s1 s2;rw[s1]
 cases h1:small x 4 with
 |false=>simp[ij]
 |true=>
 simp only[Option.bind_some,Bool.not_true,Bool.false_eq_true,if_false];rw[s2]
 cases h2:small y 4 with
 |false=>simp[ij]
 |true=>
 simp only[Option.bind_some,Bool.not_true,Bool.false_eq_true,if_false];by_cases h3:(l.length:Int)>5
 ·rw[if_pos (decide_eq_true h3),ij];rfl
 rw[if_neg (by rwa [decide_eq_true_eq])];obtain⟨lx,rx⟩:=qf h1;obtain⟨ly,ry⟩:=qf h2;obtain⟨eK,hKs⟩:=wS kn kd kp h1k h2k h3k;rw[DE x hx (by omega) (fun r hr=>by have:=rx r hr;omega),Ag l hl (by omega)];simp only[Option.bind_some];rw[eK];simp only[Option.bind_some];have bx:=xY hx;have bl:=xv hl;have nx:(x.map cN).length<=4:=by simpa using lx
 have nl:(cN l).length<=5:=by simp[cN];omega
 have cx:aJ (x.map cN)<=4:=by
  unfold aJ;by_cases h0:0<x.length
  ·rw[dM (by simpa using h0)];have:=rx x[0] (List.getElem_mem h0);simpa [cN]using this
  ·rw[jG (by rw[List.length_map];omega)];exact Nat.zero_le _
 generalize x.map cN=M at*;generalize cN l=v at*;generalize rR kn kd kp=t at*
 cases hM:right M with
 |false=>
  have e2:iK M v=some ([],2):=by
   unfold iK;rw[dO M (by omega),hM];rfl
  rw[e2];simp[ij]
 |true=>
 by_cases hc:aJ M=v.length
 ·let V:Nat->Rat:=fun j=>v.getD j 0
  have hvm:v=(List.range (aJ M)).map V:=by rw[hc];exact wY
  obtain⟨a1,_⟩:=ym (b:=256) hM (by omega) hc (by omega) bx bl (by decide) (by decide);rw[a1];simp only[Option.bind_some];rw[if_neg (by decide)];generalize hb:(List.range M.length).map (fun i=>iq (fun j=>fZ M i j) (fun j=>v.getD j 0) (aJ M))=b;have hbl:b.length=M.length:=by rw[←hb];simp
  have hbv:∀i,i<M.length->bK (List.range (aJ M)) (fun j=>fZ M i j*V j)=b.getD i 0:=fun i hi=>by
   rw[←hb,Gb hi,l_]
  have hbs:∀i,sz (b.getD i 0)<=2060:=fun i=>by
   rw[←hb];refine AB (fun i=>?_) (by decide) i;have h1:=sG (g:=fun j=>fZ M i j) (h:=fun j=>v.getD j 0) (b:=256) (fun j=>nC bx (by decide) i j) bl (aJ M);have h2:aJ M*(2*256+2)<=4*(2*256+2):=Nat.mul_le_mul_right _ cx;omega
  have hpw:∀a,a<=4->2060*8^a<=8437760:=fun a ha=>Nat.le_trans (xm ha) (by decide);obtain⟨g,pv,hS,hrr,hpl,hgs,hrg,hzr,f1,f2,f3⟩:=CT (C:=2060) hM (by omega) (by omega) hbl (by decide) (by have:=hpw _ nx;omega) (fun i j=>by
   unfold mK
   split
   ·exact Nat.le_trans (nC bx (by decide) i j) (by decide)
   ·exact hbs i) hbv
  rw[hS];simp only[Option.bind_some];have hlen:(((List.range (aJ M)).map (jk g pv (aJ M))).length:Int)=(v.length:Int):=by simp[hc]
  rw[if_neg (by decide),if_neg (by rw[hlen];simp)];have hfl:=Ba hrr (fun p hp=>(hrg p hp).2);have hG:ld g 8437760:=fun i j=>Nat.le_trans (hgs i j) (hpw _ (by omega));have hxs:∀j,sz (jk g pv (aJ M) j)<=8437760:=fun j=>Ar hG (by decide) _ _;have hks:∀q j,sz (fM g pv q j)<=8437760:=fun q j=>yz hG (by decide) _ _;have hMb:bd M 20000000:=fun r hr q hq=>Nat.le_trans (bx r hr q hq) (by decide);have hbe:=Dg b (by omega) (fun i=>Nat.le_trans (hbs i) (by decide))
  -- all multiples solve
  have hloop:Loop (fun(s:Int)=>bH M t b ((List.range (aJ M)).map (jk g pv (aJ M))) (ay (bS pv (aJ M)).length (aJ M) (gP g pv (aJ M))) s) (-1)=some (Ex.cp ()):=by
   have hfirst:bH M t b ((List.range (aJ M)).map (jk g pv (aJ M))) (ay (bS pv (aJ M)).length (aJ M) (gP g pv (aJ M))) (-1)=some (.next 0):=by
    unfold bH;rw[aI,if_pos (decide_eq_true (by omega)),if_neg (by decide),Option.bind_some,AH hM (by omega) (by omega) hMb (fun j=>Nat.le_trans (hxs j) (by decide)) (by decide) (by decide) hbl f1,Option.bind_some];simp only;rw[if_neg (by decide),hbe,Option.bind_some,if_neg (by decide)]
    rfl
   rw[eQ (body:=fun(s:Int)=>bH M t b ((List.range (aJ M)).map (jk g pv (aJ M))) (ay (bS pv (aJ M)).length (aJ M) (gP g pv (aJ M))) s) hfirst];refine qF (body:=fun(s:Int)=>bH M t b ((List.range (aJ M)).map (jk g pv (aJ M))) (ay (bS pv (aJ M)).length (aJ M) (gP g pv (aJ M))) s) (bS pv (aJ M)).length (Ex.cp ()) (fun i hi=>?_) (by
    unfold bH;rw[aI,if_neg (by simp)])
   have hmem:=q5.1 (List.getElem_mem hi);have hK:(fun j=>gP g pv (aJ M) i j)=fun j=>fM g pv (bS pv (aJ M))[i] j:=by funext j;exact lh hi
   unfold bH;rw[aI,if_pos (decide_eq_true (by omega)),if_pos (decide_eq_true (by omega)),cj hi,Option.bind_some];have hT:=vH (c:=aJ M) (B:=8437760) (F:=gP g pv (aJ M) i) (G:=jk g pv (aJ M)) (t:=t) (by omega) (fun j=>by rw[lh hi];exact hks _ _) hxs (by omega) (by decide);rw[hT,Option.bind_some,Option.bind_some,AH hM (by omega) (by omega) hMb (fun j=>?_) (by decide) (by decide) hbl (fun r hr=>?_),Option.bind_some]
   ·simp only;rw[if_neg (by decide),hbe,Option.bind_some,if_neg (by decide),ct hi (by omega)]
   ·have h1:=gQ (gP g pv (aJ M) i j) t;have h2:=nD (gP g pv (aJ M) i j*t) (jk g pv (aJ M) j);have h3:=hxs j;have h4:sz (gP g pv (aJ M) i j)<=8437760:=by rw[lh hi];exact hks _ _
    omega
   ·have h1:=f1 r hr;have h2:=f2 _ hmem.1 hmem.2 r hr;rw[bw (h:=fun j=>t*(fZ M r j*fM g pv (bS pv (aJ M))[i] j)+fZ M r j*jk g pv (aJ M) j) (fun j _=>by rw[lh hi];grind),iM,fS,h1,h2];grind
  rw[hloop];simp only[Option.bind_some]
  -- the ranks
  have hd:mD M.length (aJ M) g (fun j=>jk g pv (aJ M) j*(-1)+V j):=f3 _ fun i hi=>by
   rw[bw (h:=fun j=>(-1)*(fZ M i j*jk g pv (aJ M) j)+fZ M i j*V j) (fun j _=>by grind),iM,fS,f1 i hi,hbv i hi];grind
  have hB1:2<=2060*8^pv.length:=Nat.le_trans (by decide) (Nat.le_mul_of_pos_right 2060 (Nat.pow_pos (by decide)));have hdsz:∀j,sz (jk g pv (aJ M) j*(-1)+V j)<=2*(2060*8^pv.length):=fun j=>by
   have h1:=gQ (jk g pv (aJ M) j) (-1);have h2:=nD (jk g pv (aJ M) j*(-1)) (V j);have h3:=Ar hgs (show 1<=2060*8^pv.length by omega) (pv:=pv) (aJ M) j;have h4:sz (V j)<=256:=bl j;have h5:sz (-1:Rat)<=1:=by decide+kernel
   have h6:2060*1<=2060*8^pv.length:=Nat.mul_le_mul_left _ (Nat.pow_pos (by decide));omega
  have hkk:ld (gP g pv (aJ M)) (2060*8^pv.length):=fun i j=>yz hgs (by omega) _ _;obtain⟨A,p,A',p',r1,r2,r3,r4⟩:=D6 (m:=aJ M) (B:=2060*8^pv.length) (B2:=2*(2060*8^pv.length)) hrr hpl (fun p hp=>(hrg p hp).2) (by omega) hd hB1 (by omega) hkk (by
    rw[Nat.mul_assoc,←Nat.pow_add];have:=hpw (pv.length+(bS pv (aJ M)).length) (by omega);omega) (fun i j=>by
    show sz (if _ then _ else _)<=_
    split
    ·exact Nat.le_trans (hkk i j) (by omega)
    ·exact hdsz j) (by
    have e:2*(2060*8^pv.length)*8^((bS pv (aJ M)).length+1)=16*(2060*8^(pv.length+(bS pv (aJ M)).length)):=by
     rw[Nat.pow_succ,Nat.pow_add];generalize 8^pv.length=X;generalize 8^(bS pv (aJ M)).length=Y
     grind
    rw[e];have:=hpw (pv.length+(bS pv (aJ M)).length) (by omega);omega)
  rw[r1];simp only[Option.bind_some];have hfl2:=tY (pv:=pv) (i:=aJ M);rw[aG (by rw[aI];simp only[List.length_nil];omega)];have hm1:fh (-1)=some (-1):=by decide+kernel
  rw[hm1,Option.bind_some];have hT:=vH (c:=aJ M) (B:=8437760) (F:=jk g pv (aJ M)) (G:=V) (t:=-1) (by omega) hxs (fun j=>Nat.le_trans (bl j) (by decide)) (by decide+kernel) (by decide);rw[←hvm]at hT;rw[hT,Option.bind_some,aG (by rw[List.nil_append,aI];simp only[List.length_singleton];omega)];have hF:([]++ay (bS pv (aJ M)).length (aJ M) (gP g pv (aJ M)))++[(List.range (aJ M)).map fun j=>jk g pv (aJ M) j*(-1)+V j]=ay ((bS pv (aJ M)).length+1) (aJ M) (fun i j=>if i<(bS pv (aJ M)).length then gP g pv (aJ M) i j else jk g pv (aJ M) j*(-1)+V j):=by
   rw[kl,List.nil_append]
   congr 1
   ·exact dk fun i j hi _=>by rw[if_pos hi]
   ·congr 1
    apply List.map_congr_left;intro j _;rw[if_neg (by omega)]
  rw[hF,r2];simp only[Option.bind_some];rw[aI,r3,r4];have hdets:=EF (M:=M) (y:=y) hM nx cx bx hy ly ry;by_cases h0:(v.length:Int)>0
  ·rw[if_pos (decide_eq_true h0),if_neg (by simp),if_neg (by simp)];simp only[Option.bind_some];rw[hdets];simp[ij]
  ·rw[if_neg (by rwa [decide_eq_true_eq])];simp only[Option.bind_some];rw[hdets];simp[ij]
 ·have e2:iK M v=some ([],2):=by
   unfold iK;rw[dO M (by omega),hM];simp only[Option.bind_some,Bool.not_true,Bool.false_eq_true,if_false];rw[if_pos (by simp;omega)]
  rw[e2];simp[ij]
end Go.Am
