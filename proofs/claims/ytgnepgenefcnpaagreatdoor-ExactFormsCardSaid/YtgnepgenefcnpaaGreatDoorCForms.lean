/- ExactForms: the walk of the law, and its plain law: it returns true for every input. No condition. -/
import Derived.Test.YtgnepgenefcnpaaGreatDoorBjF
set_option linter.unusedVariables false
set_option linter.unusedSimpArgs false
namespace Go.Am
open Go.RowKit
set_option maxRecDepth 100000
noncomputable section
def eS(v14:List (List Rat))(v25:List Rat)(v29:Int)(v30:List Rat):Option (St (Int×(List Rat)) (List Rat)):=(if(decide (v29<(v14.length:Int)))=true then(ix v14 v29).bind fun v36=>(qo v25 v36).bind fun v38=>b_ ((v30.length+([v38]).length)*56<=140737488355328/\v30.length+([v38]).length<=9223372036854775807) (some (St.next ((IntKind.i64.wrap (v29+1)),(v30++[v38]))))else some (St.done v30))
def eY(a1:List (List Rat))(v14:List (List Rat))(v18:Int)(v19:List (List Rat)):Option (St (Int×(List (List Rat))) (List (List Rat))):=(if(decide (v18<(a1.length:Int)))=true then(ix a1 v18).bind fun v25=>((Loop (fun(s:Int×(List Rat))=>eS v14 v25 s.1 s.2) (0,([]:List Rat))).bind fun v41=>some (v41)).bind fun v42=>b_ ((v19.length+1)*24<=140737488355328/\v19.length+1<=9223372036854775807) (some (St.next ((IntKind.i64.wrap (v18+1)),(v19++[v42]))))else some (St.done v19))
def kg(a1:List (List Rat))(a2:List (List Rat)):Option ((List (List Rat))×Int):=(eC a1).bind fun(v3,v4,v5)=>(eC a2).bind fun(v7,v8,v9)=>(if(!v5)=true then some (([]:List (List Rat)),2)else(if(!v9)=true then some (([]:List (List Rat)),2)else(if(v4 !=v7)=true then some (([]:List (List Rat)),2)else(fO a2).bind fun v14=>((Loop (fun(s:Int×(List (List Rat)))=>eY a1 v14 s.1 s.2) (0,([]:List (List Rat)))).bind fun v44=>some (v44)).bind fun v45=>some (v45,0))))
theorem yf{a1:List (List Rat)}{a2:List (List Rat)}{r46:List (List Rat)}{r47:Int}(h:kg a1 a2=some (r46,r47)):aU PP 107 [] [al (an.slice an.rat) a1,al (an.slice an.rat) a2] [(2000013,Hp.dF an.rat 68 4000013 ([])),(4000013,Hp.store an.rat 28 r46)] (D.fU [D.own 2000013,D.int .i64 r47]):=by
 unfold kg at h;refine .of Go.Proofs.Tryz.func107 rfl (by kernel_rfl) rfl rfl rfl rfl rfl rfl (fun A w0 L b=>?_);show Ok PP _ [(0,al (an.slice an.rat) a1),(1,al (an.slice an.rat) a2)] [] _ _;refine .ak (.au rfl<|.au rfl<|.nil) rfl ?_;obtain⟨⟨v3,v4,v5⟩,e6,h⟩:=bind_some h;refine .ak (.mv rfl<|.ag (ir e6) ⟨rfl,trivial⟩ trivial trivial<|.mv rfl<|.ext rfl rfl<|.ext rfl rfl<|.ext rfl rfl<|.au rfl<|.au rfl<|.au rfl<|.nil) rfl ?_;obtain⟨⟨v7,v8,v9⟩,e10,h⟩:=bind_some h;refine .ak (.mv rfl<|.ag (ir e10) ⟨rfl,trivial⟩ trivial trivial<|.mv rfl<|.ext rfl rfl<|.ext rfl rfl<|.ext rfl rfl<|.au rfl<|.au rfl<|.au rfl<|.nil) rfl ?_;refine .sq ?_;by_cases c11:(!v5)=true
 ·replace h:=ae c11 h;refine .ak (.mv rfl<|.not rfl<|.mv rfl<|.gk c11<|.gk c11<|.bw rfl c11 rfl<|.mv rfl<|.gk rfl<|.gk rfl<|.gk rfl<|.bw rfl rfl rfl<|.nil) rfl ?_;refine .cL rfl rfl ?_;refine .ak (.au rfl<|.au rfl<|.nil) rfl ?_;refine .Ci an.rat 4 2000013 4000013 68 28 rfl rfl rfl rfl ?_;cases h;refine .aN (fun _ _ hb=>hb) rfl (.cons (.tmp rfl) (.t1 (.tmp rfl))) (.refl _) trivial (.of rfl)
 ·replace h:=ab c11 h;by_cases c12:(!v9)=true
  ·replace h:=ae c12 h;refine .ak (.mv rfl<|.not rfl<|.mv rfl<|.gz c11<|.mv rfl<|.gz c11<|.not rfl<|.br rfl c11 rfl<|.mv rfl<|.gk c12<|.gk c12<|.gk c12<|.bw rfl c12 rfl<|.nil) rfl ?_;refine .cL rfl rfl ?_;refine .ak (.au rfl<|.au rfl<|.nil) rfl ?_;refine .Ci an.rat 4 2000013 4000013 68 28 rfl rfl rfl rfl ?_;cases h;refine .aN (fun _ _ hb=>hb) rfl (.cons (.tmp rfl) (.t1 (.tmp rfl))) (.refl _) trivial (.of rfl)
  ·replace h:=ab c12 h;refine .ak (.mv rfl<|.not rfl<|.mv rfl<|.gz c11<|.mv rfl<|.gz c11<|.not rfl<|.br rfl c11 rfl<|.mv rfl<|.gz c12<|.mv rfl<|.gz c12<|.mv rfl<|.gz c12<|.cm rfl rfl rfl<|.br rfl c12 rfl<|.nil) rfl ?_;by_cases c13:(v4 !=v7)=true
   ·replace h:=ae c13 h;refine .cL rfl c13 ?_;refine .ak (.au rfl<|.au rfl<|.nil) rfl ?_;refine .Ci an.rat 4 2000013 4000013 68 28 rfl rfl rfl rfl ?_;cases h;refine .aN (fun _ _ hb=>hb) rfl (.cons (.tmp rfl) (.t1 (.tmp rfl))) (.refl _) trivial (.of rfl)
   ·replace h:=ab c13 h;refine .c_ rfl c13 ?_;refine .skip (Ok.on ?_);obtain⟨v14,e15,h⟩:=bind_some h;refine .ak (.mv rfl<|.ag (n8 e15) ⟨rfl,trivial⟩ trivial trivial<|.au rfl<|.nil) rfl ?_;refine .ak (.au rfl<|.nil) rfl ?_;obtain⟨v45,hp17,h⟩:=bind_some h;refine .cX (fun i=>v45=i) (fun(i:(List (List Rat)))=>[(13,D.own 2000013)]) (fun(i:(List (List Rat)))=>[(2000013,Hp.dF an.rat 68 4000013 ([])),(4000013,Hp.store an.rat 28 i)]) ?_ ?_
    ·have ho1:=h;have h:=hp17;refine .ak (.mv rfl<|.ig rfl bM<|.mv rfl<|.nil) rfl ?_;refine .Ci an.rat 13 2000013 4000013 68 28 rfl rfl rfl rfl ?_;obtain⟨o20,hl21,h⟩:=bind_some h;have ho2:=h;refine .block (.cD (fun(s:Int×(List (List Rat)))=>[(12,al (an.slice an.rat) v14),(13,D.own 2000013),(44,al (an.slice an.rat) a1),(45,D.int .i64 (a1.length:Int)),(46,D.int .i64 s.1)]) (fun(s:Int×(List (List Rat)))=>[(2000013,Hp.dF an.rat 68 4000013 ([])),(4000013,Hp.store an.rat 28 s.2)]) hl21 (.of rfl) (.of rfl) rfl rfl ?_);rintro⟨v18,v19⟩ st22 hb23;have h:eY a1 v14 v18 v19=some st22:=hb23;unfold eY at h
     try dsimp only
     refine .ak (.cm rfl rfl rfl<|.nil) rfl ?_;refine .sq ?_;by_cases c24:(decide (v18<(a1.length:Int)))=true
     ·replace h:=ae c24 h;refine .cL rfl c24 ?_;refine .skip (Ok.on ?_);refine .sq ?_;refine .block ?_;obtain⟨v25,e26,h⟩:=bind_some h;refine .ak (.m8 rfl rfl aK (aj e26).1 (aj e26).2<|.i6 rfl aP<|.au rfl<|.nil) rfl ?_;refine .ak (.D4 an.rat ct rfl rfl<|.au rfl<|.nil) rfl ?_;obtain⟨v42,hp28,h⟩:=bind_some h;refine .cX (fun i=>v42=i) (fun(i:(List Rat))=>[(12,al (an.slice an.rat) v14),(13,D.own 2000013),(16,D.own 50),(44,al (an.slice an.rat) a1),(45,D.int .i64 (a1.length:Int)),(46,D.int .i64 v18)]) (fun(i:(List Rat))=>[(2000013,Hp.dF an.rat 68 4000013 ([])),(4000013,Hp.store an.rat 28 v19),(50,aS an.rat 28 i)]) ?_ ?_
      ·have ho3:=h;have h:=hp28;refine .ak (.mv rfl<|.ig rfl bM<|.mv rfl<|.nil) rfl ?_;obtain⟨o31,hl32,h⟩:=bind_some h;have ho4:=h;refine .block (.cD (fun(s:Int×(List Rat))=>[(12,al (an.slice an.rat) v14),(13,D.own 2000013),(15,al an.rat v25),(16,D.own 50),(44,al (an.slice an.rat) a1),(45,D.int .i64 (a1.length:Int)),(46,D.int .i64 v18),(51,al (an.slice an.rat) v14),(52,D.int .i64 (v14.length:Int)),(53,D.int .i64 s.1)]) (fun(s:Int×(List Rat))=>[(2000013,Hp.dF an.rat 68 4000013 ([])),(4000013,Hp.store an.rat 28 v19),(50,aS an.rat 28 s.2)]) hl32 (.of rfl) (.of rfl) rfl rfl ?_);rintro⟨v29,v30⟩ st33 hb34;have h:eS v14 v25 v29 v30=some st33:=hb34;unfold eS at h
       try dsimp only
       refine .ak (.cm rfl rfl rfl<|.nil) rfl ?_;refine .sq ?_;by_cases c35:(decide (v29<(v14.length:Int)))=true
       ·replace h:=ae c35 h;refine .cL rfl c35 ?_;refine .skip (Ok.on ?_);refine .sq ?_;refine .block ?_;obtain⟨v36,e37,h⟩:=bind_some h;refine .ak (.m8 rfl rfl aK (aj e37).1 (aj e37).2<|.i6 rfl aP<|.au rfl<|.nil) rfl ?_;refine .sl 16 rfl rfl rfl ?_;obtain⟨v38,e39,h⟩:=bind_some h;obtain⟨k40,h⟩:=ax h;refine .region (.mv rfl<|.mv rfl<|.mv rfl<|.ag (Cr e39) ⟨rfl,rfl,trivial⟩ trivial trivial<|.zC (e:=an.rat) [v38] [(0,_,qD v38,qC (v38))] ct rfl rfl rfl ⟨rfl,rfl,.agg _,rfl,trivial⟩ ⟨rfl,trivial⟩ rfl rfl<|.yH (ys:=[v38]) rfl .sl rfl (.refl _) rfl ct rfl k40.1 k40.2 rfl<|.au rfl<|.nil) rfl (Ok.on ?_);refine .region (.ar rfl rfl rfl<|.mv rfl<|.nil) rfl (fun _ _ hs=>⟨((IntKind.i64.wrap (v29+1)),(v30++[v38])),(sj h),hs.oo (fun r=>match r with|50=>62|r=>r) (.r rfl rfl<|.p rfl (.own (r:=2000013))<|.r rfl rfl<|.p rfl (.own (r:=50))<|.r rfl rfl<|.r rfl rfl<|.r rfl rfl<|.r rfl rfl<|.r rfl rfl<|.r rfl rfl<|trivial) (.p rfl (.dF (s:=4000013))<|.r rfl rfl<|.r rfl rfl<|trivial) rfl rfl rfl⟩)
       ·replace h:=ab c35 h;refine .c_ rfl c35 ?_;refine .exit (fun a w hs=>⟨_,(sj h),fun e=>by subst e;have h:=ho4;exact bA (⟨v30,(sj h),hs.sub (.of rfl) (.of rfl) rfl rfl⟩)⟩)
      ·rintro _ rfl
       try dsimp only
       refine .rC 13 rfl rfl rfl ?_;refine .sl 16 rfl rfl rfl ?_;refine .vt 16 (.own 50) rfl .sl ?_;obtain⟨k43,h⟩:=ax h;refine .region (.mv rfl<|.mv rfl<|.F8 rfl dH rfl<|.FK (s2:=3000067) rfl .sl rfl rfl rfl rfl rfl dH k43.1 k43.2 rfl rfl ⟨by decide,by decide,by decide,by decide,by decide,by decide,by decide⟩<|.au rfl<|.nil) rfl (Ok.on ?_);refine .region (.ar rfl rfl rfl<|.mv rfl<|.nil) rfl (fun _ _ hs=>⟨((IntKind.i64.wrap (v18+1)),(v19++[v42])),(sj h),hs.oo (fun r=>match r with|2000013=>67|4000013=>3000067|r=>r) (.r rfl rfl<|.p rfl (.own (r:=2000013))<|.r rfl rfl<|.r rfl rfl<|.r rfl rfl<|trivial) (.p rfl (.dF (s:=4000013))<|.r rfl rfl<|trivial) rfl rfl rfl⟩)
     ·replace h:=ab c24 h;refine .c_ rfl c24 ?_;refine .exit (fun a w hs=>⟨_,(sj h),fun e=>by subst e;have h:=ho2;exact bA (⟨v19,(sj h),hs.sub (.of rfl) (.of rfl) rfl rfl⟩)⟩)
    ·rintro _ rfl
     try dsimp only
     refine .rC 13 rfl rfl rfl ?_;refine .ak (.mv rfl<|.au rfl<|.au rfl<|.nil) rfl ?_;refine .vt 4 (.own 2000013) rfl .sl ?_;cases h;refine .aN (fun _ _ hb=>hb) rfl (.cons (.tmp rfl) (.t1 (.tmp rfl))) (.refl _) trivial (.of rfl)
def ic(a1:List (List (Int×Int×Int))):Option Bool:=(kl a1 4).bind fun v2=>(if(!v2)=true then(gE).bind fun v5=>some v5 else(nt a1).bind fun(v7,v8)=>(kz v7).bind fun(v10,v11)=>(if(v11 !=0)=true then(gE).bind fun v14=>some v14 else(if((v7.length:Int)==0)=true then(gE).bind fun v17=>some v17 else(if((v10.length:Int)==0)=true then(gE).bind fun v20=>some v20 else(kg v7 v10).bind fun(v22,v23)=>(if(v23 !=0)=true then some false else(if((v22.length:Int) !=(v7.length:Int))=true then some false else(cy v22).bind fun(v27,v28,v29)=>(if(!v27)=true then some false else(if((v28.length:Int) !=0)=true then some false else(if(v29 !=0)=true then some false else(ix v22 (IntKind.i64.wrap ((v22.length:Int)-1))).bind fun v34=>(ix v22 (IntKind.i64.wrap ((v22.length:Int)-1))).bind fun v36=>(ix v36 (IntKind.i64.wrap ((v22.length:Int)-1))).bind fun v38=>(pR v38).bind fun v40=>(gD 1).bind fun v42=>(jQ v40 v42).bind fun v44=>(ix v34 (IntKind.i64.wrap ((v22.length:Int)-1))).bind fun v46=>(cy (v22.set (IntKind.i64.wrap ((v22.length:Int)-1)).toNat (v34.set (IntKind.i64.wrap ((v22.length:Int)-1)).toNat v44))).bind fun(v48,v49,v50)=>(if(!v48)=true then(if(v50==0)=true then(fM (v22.set (IntKind.i64.wrap ((v22.length:Int)-1)).toNat (v34.set (IntKind.i64.wrap ((v22.length:Int)-1)).toNat v44)) v49).bind fun v54=>(if v54=true then(gE).bind fun v57=>some v57 else some false)else some false)else some false))))))))))
theorem q_{a1:List (List (Int×Int×Int))}{r59:Bool}(h:ic a1=some r59):aU PP 18 [] [al (an.slice (an.prod (an.int .i64) (an.prod (an.int .i64) (an.int .u8)))) a1] [] (D.bool r59):=by
 unfold ic at h;refine .of Go.Proofs.Tryz.func18 rfl (by kernel_rfl) rfl rfl rfl rfl rfl rfl (fun A w0 L b=>?_);show Ok PP _ [(0,al (an.slice (an.prod (an.int .i64) (an.prod (an.int .i64) (an.int .u8)))) a1)] [] _ _;refine .ak (.au rfl<|.nil) rfl ?_;refine .sq ?_;obtain⟨v2,e3,h⟩:=bind_some h;refine .ak (.mv rfl<|.ag (xY e3) ⟨rfl,rfl,trivial⟩ trivial trivial<|.not rfl<|.nil) rfl ?_;by_cases c4:(!v2)=true
 ·replace h:=ae c4 h;refine .cL rfl c4 ?_;obtain⟨v5,e6,h⟩:=bind_some h;refine .ak (.ag (kx e6) trivial trivial trivial<|.au rfl<|.nil) rfl ?_;cases h;refine .aN (fun _ _ hb=>hb) rfl (.t1 (.tmp rfl)) (.refl _) trivial trivial
 ·replace h:=ab c4 h;refine .c_ rfl c4 ?_;refine .skip (Ok.on ?_);obtain⟨⟨v7,v8⟩,e9,h⟩:=bind_some h;refine .ak (.mv rfl<|.ag (BN e9) ⟨rfl,trivial⟩ trivial trivial<|.mv rfl<|.ext rfl rfl<|.ext rfl rfl<|.au rfl<|.au rfl<|.nil) rfl ?_;obtain⟨⟨v10,v11⟩,e12,h⟩:=bind_some h;refine .ak (.mv rfl<|.ag (AY e12) ⟨rfl,trivial⟩ trivial trivial<|.mv rfl<|.ext rfl rfl<|.ext rfl rfl<|.au rfl<|.au rfl<|.nil) rfl ?_;refine .sq ?_;refine .ak (.mv rfl<|.cm rfl rfl rfl<|.nil) rfl ?_;by_cases c13:(v11 !=0)=true
  ·replace h:=ae c13 h;refine .cL rfl c13 ?_;obtain⟨v14,e15,h⟩:=bind_some h;refine .ak (.ag (kx e15) trivial trivial trivial<|.au rfl<|.nil) rfl ?_;cases h;refine .aN (fun _ _ hb=>hb) rfl (.t1 (.tmp rfl)) (.refl _) trivial trivial
  ·replace h:=ab c13 h;refine .c_ rfl c13 ?_;refine .skip (Ok.on ?_);refine .sq ?_;by_cases c16:((v7.length:Int)==0)=true
   ·replace h:=ae c16 h;refine .ak (.mv rfl<|.ig rfl bM<|.cm rfl rfl rfl<|.mv rfl<|.gk c16<|.gk c16<|.gk c16<|.bw rfl c16 rfl<|.nil) rfl ?_;refine .cL rfl rfl ?_;obtain⟨v17,e18,h⟩:=bind_some h;refine .ak (.ag (kx e18) trivial trivial trivial<|.au rfl<|.nil) rfl ?_;cases h;refine .aN (fun _ _ hb=>hb) rfl (.t1 (.tmp rfl)) (.refl _) trivial trivial
   ·replace h:=ab c16 h;refine .ak (.mv rfl<|.ig rfl bM<|.cm rfl rfl rfl<|.mv rfl<|.gz c16<|.mv rfl<|.gz c16<|.ig rfl bM<|.gz c16<|.cm rfl rfl rfl<|.br rfl c16 rfl<|.nil) rfl ?_;by_cases c19:((v10.length:Int)==0)=true
    ·replace h:=ae c19 h;refine .cL rfl c19 ?_;obtain⟨v20,e21,h⟩:=bind_some h;refine .ak (.ag (kx e21) trivial trivial trivial<|.au rfl<|.nil) rfl ?_;cases h;refine .aN (fun _ _ hb=>hb) rfl (.t1 (.tmp rfl)) (.refl _) trivial trivial
    ·replace h:=ab c19 h;refine .c_ rfl c19 ?_;refine .skip (Ok.on ?_);obtain⟨⟨v22,v23⟩,e24,h⟩:=bind_some h;refine .ak (.mv rfl<|.mv rfl<|.ag (Hi:=[]) (Ho:=[(45,Hp.dF an.rat 68 3000045 ([])),(3000045,Hp.store an.rat 28 v22)]) (d:=D.fU [D.own 45,D.int .i64 v23]) (ds:=[al (an.slice an.rat) v7,al (an.slice an.rat) v10]) (.Bm (yf e24) (fun r=>match r with|2000013=>45|4000013=>3000045|r=>r) (fun r=>match r with|45=>2000013|3000045=>4000013|r=>r) rfl trivial rfl ⟨.refl rfl,.refl rfl,trivial⟩ (.p rfl (.dF (s:=3000045))<|.r rfl rfl<|trivial) rfl (.fU ⟨.own (r:=45),.refl rfl,trivial⟩) rfl rfl rfl rfl rfl) ⟨rfl,rfl,trivial⟩ trivial ⟨rfl,rfl,trivial⟩<|.mv rfl<|.ext rfl rfl<|.ext rfl rfl<|.au rfl<|.au rfl<|.nil) rfl ?_;refine .sq ?_;refine .rC 7 rfl rfl rfl ?_;by_cases c25:(v23 !=0)=true
     ·replace h:=ae c25 h;refine .ak (.mv rfl<|.cm rfl rfl rfl<|.mv rfl<|.gk c25<|.gk c25<|.gk c25<|.gk c25<|.gk c25<|.bw rfl c25 rfl<|.nil) rfl ?_;refine .cL rfl rfl ?_;refine .ak (.au rfl<|.nil) rfl ?_;cases h;refine .aN (fun _ _ hb=>hb) rfl (.t1 (.tmp rfl)) (.refl _) trivial trivial
     ·replace h:=ab c25 h;refine .ak (.mv rfl<|.cm rfl rfl rfl<|.mv rfl<|.gz c25<|.mv rfl<|.gz c25<|.DQ rfl bM<|.gz c25<|.mv rfl<|.gz c25<|.ig rfl bM<|.gz c25<|.cm rfl rfl rfl<|.br rfl c25 rfl<|.nil) rfl ?_;by_cases c26:((v22.length:Int) !=(v7.length:Int))=true
      ·replace h:=ae c26 h;refine .cL rfl c26 ?_;refine .ak (.au rfl<|.nil) rfl ?_;cases h;refine .aN (fun _ _ hb=>hb) rfl (.t1 (.tmp rfl)) (.refl _) trivial trivial
      ·replace h:=ab c26 h;refine .c_ rfl c26 ?_;refine .skip (Ok.on ?_);obtain⟨⟨v27,v28,v29⟩,e30,h⟩:=bind_some h;refine .ak (.mv rfl<|.C3 (d':=D.fU [D.bool v27,D.qK v28.length,D.int .i64 v29]) (ds0:=[D.sl 45 v22.length]) [(45,Hp.dF an.rat 68 3000045 ([])),(3000045,Hp.store an.rat 28 v22)] (lU e30) (.fU ⟨.refl _,.qK,.refl _,trivial⟩) ⟨rfl,trivial⟩ ⟨rfl,rfl,trivial⟩ ⟨(.dF .sl rfl rfl rfl),trivial⟩ (.fU ⟨.bool,.qK,.int,trivial⟩) rfl<|.mv rfl<|.ext rfl rfl<|.ext rfl rfl<|.ext rfl rfl<|.au rfl<|.au rfl<|.au rfl<|.nil) rfl ?_;refine .sq ?_;by_cases c31:(!v27)=true
       ·replace h:=ae c31 h;refine .ak (.mv rfl<|.not rfl<|.mv rfl<|.gk c31<|.gk c31<|.gk c31<|.bw rfl c31 rfl<|.mv rfl<|.gk rfl<|.gk rfl<|.bw rfl rfl rfl<|.nil) rfl ?_;refine .cL rfl rfl ?_;refine .ak (.au rfl<|.nil) rfl ?_;cases h;refine .aN (fun _ _ hb=>hb) rfl (.t1 (.tmp rfl)) (.refl _) trivial trivial
       ·replace h:=ab c31 h;by_cases c32:((v28.length:Int) !=0)=true
        ·replace h:=ae c32 h;refine .ak (.mv rfl<|.not rfl<|.mv rfl<|.gz c31<|.mv rfl<|.gz c31<|.Fv rfl cY<|.gz c31<|.cm rfl rfl rfl<|.br rfl c31 rfl<|.mv rfl<|.gk c32<|.gk c32<|.bw rfl c32 rfl<|.nil) rfl ?_;refine .cL rfl rfl ?_;refine .ak (.au rfl<|.nil) rfl ?_;cases h;refine .aN (fun _ _ hb=>hb) rfl (.t1 (.tmp rfl)) (.refl _) trivial trivial
        ·replace h:=ab c32 h;refine .ak (.mv rfl<|.not rfl<|.mv rfl<|.gz c31<|.mv rfl<|.gz c31<|.Fv rfl cY<|.gz c31<|.cm rfl rfl rfl<|.br rfl c31 rfl<|.mv rfl<|.gz c32<|.mv rfl<|.gz c32<|.cm rfl rfl rfl<|.br rfl c32 rfl<|.nil) rfl ?_;by_cases c33:(v29 !=0)=true
         ·replace h:=ae c33 h;refine .cL rfl c33 ?_;refine .ak (.au rfl<|.nil) rfl ?_;cases h;refine .aN (fun _ _ hb=>hb) rfl (.t1 (.tmp rfl)) (.refl _) trivial trivial
         ·replace h:=ab c33 h;refine .c_ rfl c33 ?_;refine .skip (Ok.on ?_);refine .ak (.mv rfl<|.DQ rfl bM<|.ar rfl rfl rfl<|.au rfl<|.nil) rfl ?_;obtain⟨v34,e35,h⟩:=bind_some h;obtain⟨v36,e37,h⟩:=bind_some h;obtain⟨v38,e39,h⟩:=bind_some h;obtain⟨v40,e41,h⟩:=bind_some h;obtain⟨v42,e43,h⟩:=bind_some h;obtain⟨v44,e45,h⟩:=bind_some h;obtain⟨v46,e47,h⟩:=bind_some h;refine .dt cq (.mv rfl<|.mv rfl<|.l4 rfl rfl aK (aj e35).1 (by have:=je e35;simpa using this)<|.rn (de e35) rfl rfl rfl rfl aP<|.mv rfl<|.mv rfl<|.mv rfl<|.l4 rfl rfl aK (aj e37).1 (by have:=je e37;simpa using this)<|.rn (de e37) rfl rfl rfl rfl aP<|.mv rfl<|.tY rfl rfl rfl (aj e37).2 bf (aj e39).1 (je e39) rfl<|.m1 rfl rfl (aj e37).2 (aj e39).2 aa rfl rfl<|.ag (yW e41) ⟨rfl,trivial⟩ trivial trivial<|.ag (jT e43) ⟨rfl,trivial⟩ trivial trivial<|.ag (qL e45) ⟨rfl,rfl,trivial⟩ trivial trivial<|.tY rfl rfl rfl (aj e35).2 bf (aj e47).1 (je e47) rfl<|.CI v44 rfl rfl rfl (aj e35).2 (de e47) aa rfl rfl rfl<|.nil) rfl (by kernel_rfl) ?_;refine .vt 7 (.own 45) rfl .sl ?_;refine .D7 7 rfl rfl rfl rfl rfl ?_;obtain⟨⟨v48,v49,v50⟩,e51,h⟩:=bind_some h;refine .ak (.mv rfl<|.ag (lU e51) ⟨rfl,trivial⟩ trivial trivial<|.mv rfl<|.ext rfl rfl<|.ext rfl rfl<|.ext rfl rfl<|.au rfl<|.au rfl<|.au rfl<|.nil) rfl ?_;by_cases c52:(!v48)=true
          ·replace h:=ae c52 h;by_cases c53:(v50==0)=true
           ·replace h:=ae c53 h;obtain⟨v54,e55,h⟩:=bind_some h;by_cases c56:v54=true
            ·replace h:=ae c56 h;obtain⟨v57,e58,h⟩:=bind_some h;refine .ak (.mv rfl<|.not rfl<|.mv rfl<|.gy c52<|.mv rfl<|.gy c52<|.cm rfl rfl rfl<|.bw rfl c52 rfl<|.mv rfl<|.gy c53<|.mv rfl<|.gy c53<|.mv rfl<|.gy c53<|.ag (nX e55) ⟨rfl,rfl,trivial⟩ trivial trivial<|.bw rfl c53 rfl<|.mv rfl<|.gy c56<|.ag (kx e58) trivial trivial trivial<|.bw rfl c56 rfl<|.au rfl<|.nil) rfl ?_;cases h;refine .aN (fun _ _ hb=>hb) rfl (.t1 (.tmp rfl)) (.refl _) trivial trivial
            ·replace h:=ab c56 h;refine .ak (.mv rfl<|.not rfl<|.mv rfl<|.gy c52<|.mv rfl<|.gy c52<|.cm rfl rfl rfl<|.bw rfl c52 rfl<|.mv rfl<|.gy c53<|.mv rfl<|.gy c53<|.mv rfl<|.gy c53<|.ag (nX e55) ⟨rfl,rfl,trivial⟩ trivial trivial<|.bw rfl c53 rfl<|.mv rfl<|.gm c56<|.br rfl c56 rfl<|.au rfl<|.nil) rfl ?_;cases h;refine .aN (fun _ _ hb=>hb) rfl (.t1 (.tmp rfl)) (.refl _) trivial trivial
           ·replace h:=ab c53 h;refine .ak (.mv rfl<|.not rfl<|.mv rfl<|.gy c52<|.mv rfl<|.gy c52<|.cm rfl rfl rfl<|.bw rfl c52 rfl<|.mv rfl<|.gm c53<|.gm c53<|.gm c53<|.br rfl c53 rfl<|.mv rfl<|.bU<|.br rfl (by decide) rfl<|.au rfl<|.nil) rfl ?_;cases h;refine .aN (fun _ _ hb=>hb) rfl (.t1 (.tmp rfl)) (.refl _) trivial trivial
          ·replace h:=ab c52 h;refine .ak (.mv rfl<|.not rfl<|.mv rfl<|.gm c52<|.gm c52<|.br rfl c52 rfl<|.mv rfl<|.bU<|.bU<|.bU<|.br rfl (by decide) rfl<|.mv rfl<|.bU<|.br rfl (by decide) rfl<|.au rfl<|.nil) rfl ?_;cases h;refine .aN (fun _ _ hb=>hb) rfl (.t1 (.tmp rfl)) (.refl _) trivial trivial
end
end Go.Am
namespace Go.Am
variable {M N:List (List Rat)} {n:Nat}
theorem BS{b:Nat}(h:right M=true)(h':right N=true)(hl:M.length<=30)(hl':N.length<=30)(hc:cM M=N.length)(hc':cM N<=30)(hb:bd M b)(hb':bd N b)(hb1:1<=b)(hb2:b<=100000000):
  kg M N=some (aR M.length (cM N) (qT M N (cM M)),0):=by
 unfold kg;rw[jZ M hl,jZ N hl',h,h'];simp only[Option.bind_some,Bool.not_true,Bool.false_eq_true,if_false];rw[if_neg (by simp[hc]),sk h' hl' hc'];simp only[Option.bind_some];have hL:=gg (body:=fun(s:Int×(List (List Rat)))=>eY M (aR (cM N) N.length fun k i=>ij N i k) s.1 s.2) M.length (fun i=>aR i (cM N) (qT M N (cM M))) (aR M.length (cM N) (qT M N (cM M))) (fun i hi=>by
   unfold eY;rw[if_pos (decide_eq_true (by omega)),tv hi];simp only[Option.bind_some];have hI:=gg (body:=fun(s:Int×(List Rat))=>eS (aR (cM N) N.length fun k i=>ij N i k) M[i] s.1 s.2) (cM N) (fun k=>(List.range k).map (qT M N (cM M) i)) ((List.range (cM N)).map (qT M N (cM M) i)) (fun k hk=>by
     unfold eS;rw[bW,if_pos (decide_eq_true (by omega)),bR hk];simp only[Option.bind_some];have hr:=mD h hi;have:=(zT (a:=M[i]) (c:=(List.range N.length).map fun i=>ij N i k) (b:=b) (by omega) (by simp;omega) (xc hb hb1 hi) (fun j=>by
      by_cases hj:j<N.length
      ·rw[fh (by simpa using hj)];simp only[List.getElem_map,List.getElem_range];exact ow hb' hb1 j k
      ·rw[kM (by simp;omega)];exact Nat.le_trans (show sz (0:Rat)<=1 by decide) hb1) hb2).1
     rw[this,hr];simp only[Option.bind_some];rw[aO (by simp only[List.length_map,List.length_range,List.length_singleton];omega),eE hk (by omega),nk];have e:ff (fun j=>M[i].getD j 0) (fun j=>((List.range N.length).map fun i=>ij N i k).getD j 0) (cM M)=qT M N (cM M) i k:=p2 (fun j hj=>by
      refine⟨by unfold ij;rw[fh hi],?_⟩;rw[fh (by simp;omega)];simp)
     rw[e]) (by
     unfold eS;rw[bW,if_neg (by simp)])
   have:Loop (fun(s:Int×(List Rat))=>eS (aR (cM N) N.length fun k i=>ij N i k) M[i] s.1 s.2) (0,([]:List Rat))=_:=hI;rw[this];simp only[Option.bind_some];rw[aO (by simp only[bW];omega),eE hi (by omega),oM]) (by
   unfold eY;rw[if_neg (by simp)])
 have:Loop (fun(s:Int×(List (List Rat)))=>eY M (aR (cM N) N.length fun k i=>ij N i k) s.1 s.2) (0,([]:List (List Rat)))=_:=hL;rw[this];rfl
theorem yJ{m:Nat}{F:Nat->Nat->Rat}{x:Nat->Rat}:Qf n (fun i j=>bZ (List.range m) fun k=>F i k*F j k) x x=bZ (List.range m) fun k=>(bZ (List.range n) fun i=>x i*F i k)*(bZ (List.range n) fun i=>x i*F i k):=by
 have sw:∀(l l':List Nat) (g:Nat->Nat->Rat),bZ l (fun i=>bZ l' fun k=>g i k)=bZ l' fun k=>bZ l fun i=>g i k:=by
  intro l
  induction l with
  |nil=>intro l' g;exact(mb fun _ _=>rfl).symm
  |cons a l ih=>
   intro l' g;show bZ l' (fun k=>g a k)+bZ l (fun i=>bZ l' fun k=>g i k)=bZ l' fun k=>g a k+bZ l fun i=>g i k;rw[ih,←ib]
 have e1:Qf n (fun i j=>bZ (List.range m) fun k=>F i k*F j k) x x=bZ (List.range n) fun p=>bZ (List.range n) fun q=>bZ (List.range m) fun k=>(x p*F p k)*(x q*F q k):=by
  unfold Qf;refine bk fun p _=>bk fun q _=>?_;rw[show x p*(bZ (List.range m) fun k=>F p k*F q k)*x q=(x p*x q)*bZ (List.range m) (fun k=>F p k*F q k)by grind,←eN];exact bk fun k _=>by grind
 rw[e1,bk (fun p _=>sw (List.range n) (List.range m) fun q k=>(x p*F p k)*(x q*F q k)),sw];refine bk fun k _=>?_;rw[←sA]
theorem tP{g:Nat->Rat}:∀{l:List Nat},(∀a∈l,0<=g a)->0<=bZ l g
 |[],_=>by show(0:Rat)<=0;exact Rat.le_refl
 |a::l,h=>by
  have h1:=h a List.mem_cons_self;have h2:=tP (l:=l) (fun b hb=>h b (List.mem_cons_of_mem _ hb));show 0<=g a+bZ l g
  grind
theorem Az{f:Nat->Nat->Rat}{i j:Nat}(hi:i<n)(hj:j<n):ij (aR n n f) i j=f i j:=by
 rw[tw (by rw[bW];exact hi) (by simp[aR];exact hj)];simp[aR]
theorem yS{f:Nat->Nat->Rat}{w:Nat->Rat}(hn0:0<n)(hn:n<=6)(hf:rF f 100000000)(hw:∀j,sz (w j)<=100000000)(hneg:Qf n f w w<0):fM (aR n n f) ((List.range n).map w)=some true:=by
 refine uC kQ bW (mg hn0) hn (xD hf) hw ?_;have:Qf n (ij (aR n n f)) w w=Qf n f w w:=bk fun p hp=>bk fun q hq=>by rw[Az (List.mem_range.1 hp) (List.mem_range.1 hq)]
 rwa [this]
theorem vB(x:List (List (Int×Int×Int)))(hx:wB x):ic x=some true:=by
 unfold ic;have s1:=y8 x 4 (by omega);have c5:((4:Nat):Int)=4:=rfl;rw[c5]at s1;rw[s1]
 cases h1:small x 4 with
 |false=>simp[jC]
 |true=>
 simp only[Option.bind_some,Bool.not_true,Bool.false_eq_true,if_false];obtain⟨lx,rx⟩:=qU h1;rw[C7 x hx (by omega) (fun r hr=>by have:=rx r hr;omega)];simp only[Option.bind_some];have bx:=yV hx;have nx:(x.map cZ).length<=4:=by simpa using lx
 have cx:cM (x.map cZ)<=4:=by
  unfold cM;by_cases h0:0<x.length
  ·rw[fh (by simpa using h0)];have:=rx x[0] (List.getElem_mem h0);simpa [cZ]using this
  ·rw[kM (by rw[List.length_map];omega)];exact Nat.zero_le _
 generalize x.map cZ=M at*
 cases hM:right M with
 |false=>
  have:kz M=some ([],2):=by
   unfold kz;rw[jZ M (by omega),hM];rfl
  rw[this];simp[jC]
 |true=>
 have hT:kz M=some (aR (cM M) M.length fun k i=>ij M i k,0):=by
  unfold kz;rw[jZ M (by omega),hM,Option.bind_some];simp only[Bool.not_true,Bool.false_eq_true,if_false];rw[sk hM (by omega) (by omega)];rfl
 rw[hT];simp only[Option.bind_some];rw[if_neg (by decide)];by_cases h0:M.length=0
 ·rw[if_pos (by simp[h0]),jC];rfl
 rw[if_neg (by simpa using h0),bW];by_cases hc0:cM M=0
 ·rw[if_pos (by simp[hc0]),jC];rfl
 rw[if_neg (by simpa using hc0)];have bT:bd (aR (cM M) M.length fun k i=>ij M i k) 256:=xD (fun k j=>ow bx (by decide) j k);have hn0:0<M.length:=by omega
 have hU:=BS (M:=M) (N:=aR (cM M) M.length fun k i=>ij M i k) (b:=256) hM kQ (by omega) (by rw[bW];omega) (by rw[bW]) (by rw[mg (by omega)];omega) bx bT (by decide) (by decide);rw[mg (by omega)]at hU;rw[hU];simp only[Option.bind_some];rw[if_neg (by decide),bW,if_neg (by simp)]
 -- the product
 generalize hn:M.length=n at*
 let G:Nat->Nat->Rat:=fun i j=>bZ (List.range (cM M)) fun k=>ij M i k*ij M j k
 have hG:aR n n (qT M (aR (cM M) n fun k i=>ij M i k) (cM M))=aR n n G:=dw fun i j hi hj=>by
  show ff _ _ _=_;rw[kt];refine bk fun k hk=>?_;have hk':=List.mem_range.1 hk;have:ij (aR (cM M) n fun k i=>ij M i k) k j=ij M j k:=by
   rw[tw (by rw[bW];exact hk') (by simp[aR];exact hj)];simp[aR]
  rw[this]
 rw[hG];have hGs:rF G 2100:=fun i j=>by
  have h1:G i j=ff (fun k=>ij M i k) (fun k=>ij M j k) (cM M):=(kt _).symm;have h2:=oc (g:=fun k=>ij M i k) (h:=fun k=>ij M j k) (b:=256) (fun k=>ow bx (by decide) i k) (fun k=>ow bx (by decide) j k) (cM M);have h3:cM M*(2*256+2)<=4*(2*256+2):=Nat.mul_le_mul_right _ cx;rw[h1];omega
 have hGsym:symm G:=fun i j=>bk fun k _=>by grind
 have hC:2200*8^n<=20000000:=by
  have:=Nat.mul_le_mul_left 2200 (Nat.pow_le_pow_right (show 0<8 by decide) (show n<=4 from nx));have e:2200*8^4=9011200:=by decide
  omega
 have hW:5*(2200*8^(n-1))+5<=100000000:=by
  have:=Nat.mul_le_mul_left 2200 (Nat.pow_le_pow_right (show 0<8 by decide) (show n-1<=4 by omega));have e:2200*8^4=9011200:=by decide
  omega
 have hsymB:∀{F:Nat->Nat->Rat},symm F->ze n F:=fun h i j _ _=>h i j;rcases xg (n:=n) (C:=2200) G (by omega) (by decide) hC (fun i j=>Nat.le_trans (hGs i j) (by decide))with⟨hns,_⟩|⟨_,_,hs⟩
 ·exact absurd (hsymB hGsym) hns
 rcases hs with⟨s1,_⟩|⟨w,_,hq,_⟩
 ·rw[s1];simp only[Option.bind_some,Bool.not_true,Bool.false_eq_true,if_false];rw[if_neg (by decide),if_neg (by decide)];have hw:IntKind.i64.wrap ((n:Int)-1)=((n-1:Nat):Int):=by rw[IntKind.wrap_i64];omega
  have hlt:n-1<n:=by omega
  rw[hw,bR hlt];simp only[Option.bind_some];rw[cA hlt];simp only[Option.bind_some];have q1:pR (G (n-1) (n-1))=some (-(G (n-1) (n-1))):=rfl;have hg:=hGs (n-1) (n-1);have s0:sz (1:Rat)<=1:=by decide+kernel
  have h3:=oi (-(G (n-1) (n-1))) 1;rw[jO]at h3;rw[q1,Option.bind_some,wg,Option.bind_some,uW (show cJ (-(G (n-1) (n-1)))by unfold cJ;rw[jO];omega) (show cJ 1 by decide+kernel),Option.bind_some,qH]
  -- the other form
  generalize hF:(fun i j=>if i=n-1/\j=n-1 then-(G (n-1) (n-1))-1 else G i j)=F;have hFs:rF F 2200:=fun i j=>by
   rw[←hF];show sz (if _ then _ else _)<=_
   split
   ·omega
   ·exact Nat.le_trans (hGs i j) (by decide)
  have hFsym:symm F:=fun i j=>by
   rw[←hF];show(if i=n-1/\j=n-1 then _ else _)=if j=n-1/\i=n-1 then _ else _;by_cases e:i=n-1/\j=n-1
   ·rw[if_pos e,if_pos ⟨e.2,e.1⟩]
   ·rw[if_neg e,if_neg (fun h=>e ⟨h.2,h.1⟩)];exact hGsym i j
  have hFneg:F (n-1) (n-1)<0:=by
   rw[←hF];show(if n-1=n-1/\n-1=n-1 then _ else _)<(0:Rat);rw[if_pos ⟨rfl,rfl⟩];have:0<=G (n-1) (n-1):=tP fun k _=>y9 _
   grind
  rcases xg (n:=n) (C:=2200) F (by omega) (by decide) hC hFs with⟨hns,_⟩|⟨_,_,hs⟩
  ·exact absurd (hsymB hFsym) hns
  rcases hs with⟨_,hp⟩|⟨w,s2,hq,hws⟩
  ·have h4:=hp hFsym (fQ (n-1));rw[←Ee,wE hlt hlt]at h4
   grind
  ·rw[s2];simp only[Option.bind_some];rw[yS hn0 (by omega) (fun i j=>Nat.le_trans (hFs i j) (by decide)) (fun j=>Nat.le_trans (hws j) hW) (hq hFsym)];simp[jC]
 ·have h4:=hq hGsym;have h5:0<=Qf n G w w:=by
   rw[yJ];exact tP fun k _=>y9 _
  grind
end Go.Am
