/- Part 5 of 7 of what the laws of layer 1 share: contracts of functions of the program, each for every argument of its description; no condition beyond it. -/
import Derived.Test.YtgnepgenefcnpaaGreatDoorBhD
set_option linter.unusedVariables false
set_option linter.unusedSimpArgs false
namespace Go.Am
open Go.RowKit
set_option maxRecDepth 100000
noncomputable section
def nf(v8:Int)(v9:List (List Rat))(v18:Int):Option (St Int Int):=(if(decide (v18<(v9.length:Int)))=true then(ix v9 v18).bind fun v24=>(ix v24 v8).bind fun v26=>(cW v26).bind fun v28=>(if(v28==0)=true then some (St.next (IntKind.i64.wrap (v18+1)))else some (St.done v18))else some (St.done v18))
def lP(v8:Int)(v54:Int)(v71:Rat)(v73:Int)(v74:List (List Rat)):Option (St (Int×(List (List Rat))) (List (List Rat))):=(if(decide (v73<(v74.length:Int)))=true then(ix v74 v54).bind fun v80=>(ix v74 v54).bind fun v82=>(ix v82 v73).bind fun v84=>(ix v74 v8).bind fun v86=>(ix v86 v73).bind fun v88=>(fh v71 v88).bind fun v90=>(ks v84 v90).bind fun v92=>(ix v80 v73).bind fun v94=>some (St.next ((IntKind.i64.wrap (v73+1)),(v74.set v54.toNat (v80.set v73.toNat v92))))else some (St.done v74))
def ja(v8:Int)(v54:Int)(v55:List (List Rat)):Option (St (Int×(List (List Rat))) (List (List Rat))):=(if(decide (v54<(v55.length:Int)))=true then((ix v55 v54).bind fun v63=>(ix v63 v8).bind fun v65=>(ix v55 v8).bind fun v67=>(ix v67 v8).bind fun v69=>(fV v65 v69).bind fun v71=>(Loop (fun(s:Int×(List (List Rat)))=>lP v8 v54 v71 s.1 s.2) (v8,v55)).bind fun v96=>some (v96)).bind fun v97=>some (St.next ((IntKind.i64.wrap (v54+1)),v97))else some (St.done v55))
def cS(v8:Int)(v9:List (List Rat))(v10:Rat):Option (St (Int×(List (List Rat))×Rat) (Ex Rat Rat)):=(if(decide (v8<(v9.length:Int)))=true then((Loop (fun(s:Int)=>nf v8 v9 s) v8).bind fun v31=>(if(v31==(v9.length:Int))=true then some (Ex.ret 0)else((if(v31 !=v8)=true then(ix v9 v31).bind fun v36=>(ix v9 v8).bind fun v38=>(ix v9 v8).bind fun v40=>(ix v9 v31).bind fun v42=>(pg v10).bind fun v44=>some ((((v9.set v8.toNat v36).set v31.toNat v40),v44))else some ((v9,v10)))).bind fun(v46,v47)=>(ix v46 v8).bind fun v48=>(ix v48 v8).bind fun v50=>(fh v47 v50).bind fun v52=>(Loop (fun(s:Int×(List (List Rat)))=>ja v8 s.1 s.2) ((IntKind.i64.wrap (v8+1)),v46)).bind fun v98=>some (Ex.cd (v98,v52)))).bind fun o16=>(match o16 with|Ex.cd (v99,v100)=>some (St.next ((IntKind.i64.wrap (v8+1)),v99,v100))|Ex.ret r101=>some (St.done (Ex.ret r101)))else some (St.done (Ex.cd v10)))
def oB(a1:List (List Rat)):Option Rat:=(j3 a1).bind fun v2=>(fY 1).bind fun v4=>((Loop (fun(s:Int×(List (List Rat))×Rat)=>cS s.1 s.2.1 s.2.2) (0,v2,v4)).bind fun o11=>(match o11 with|Ex.cd v102=>some (Ex.cd v102)|Ex.ret r103=>some (Ex.ret r103))).bind fun o6=>(match o6 with|Ex.cd v104=>some v104|Ex.ret r105=>some r105)
theorem AP{a1:List (List Rat)}{r106:Rat}(h:oB a1=some r106):bf PP 133 [] [ai (ak.slice ak.rq) a1] [] (pZ r106):=by
 unfold oB at h;refine .of Go.Proofs.Tryz.func133 rfl (by kernel_rfl) rfl rfl rfl rfl rfl rfl (fun A w0 L b=>?_);show Ok PP _ [(0,ai (ak.slice ak.rq) a1)] [] _ _;refine .al (.fN (iq (0)) br ⟨C8,C0,.refl _,EG,trivial⟩ rfl<|.nil) rfl ?_;obtain⟨v2,e3,h⟩:=bind_some h;refine .al (.mv rfl<|.ag (Hi:=[]) (Ho:=[(11,Hp.cb ak.rq 69 3000011 ([])),(3000011,Hp.store ak.rq 37 v2)]) (d:=D.own 11) (ds:=[ai (ak.slice ak.rq) a1]) (.zu (uw e3) (fun r=>match r with|2000003=>11|4000003=>3000011|r=>r) (fun r=>match r with|11=>2000003|3000011=>4000003|r=>r) rfl trivial rfl ⟨.refl rfl,trivial⟩ (.p rfl (.cb (s:=3000011))<|.r rfl rfl<|trivial) rfl (.own (r:=11)) rfl rfl rfl rfl rfl) ⟨rfl,trivial⟩ trivial ⟨rfl,rfl,trivial⟩<|.aq rfl<|.nil) rfl ?_;obtain⟨v4,e5,h⟩:=bind_some h;refine .al (.ag (DY e5) ⟨rfl,trivial⟩ trivial trivial<|.fN (iq (0)) br ⟨C8,C0,.refl _,EG,trivial⟩ rfl<|.cU (iq (v4)) rfl rfl rfl aj rfl rfl rfl<|.nil) rfl ?_;obtain⟨o6,hp7,h⟩:=bind_some h;refine .cc (fun i=>o6=Ex.cd i) (fun(i:Rat)=>[(2,D.ref 2 0),(4,D.ref 4 0)]) (fun(i:Rat)=>[(2,Hp.box 37 (iq (0))),(4,Hp.box 37 (iq (i)))]) ?_ ?_
 ·have ho1:=h;have h:=hp7;refine .al (.aq rfl<|.nil) rfl ?_;obtain⟨o11,hl12,h⟩:=bind_some h;have ho2:=h;refine .block (.bU (fun(s:Int×(List (List Rat))×Rat)=>[(2,D.ref 2 0),(3,D.own 11),(4,D.ref 4 0),(5,D.int .i64 s.1)]) (fun(s:Int×(List (List Rat))×Rat)=>[(2,Hp.box 37 (iq (0))),(11,Hp.cb ak.rq 69 3000011 ([])),(3000011,Hp.store ak.rq 37 s.2.1),(4,Hp.box 37 (iq (s.2.2)))]) hl12 (.of rfl) (.of rfl) rfl rfl ?_);rintro⟨v8,v9,v10⟩ st13 hb14;have h:cS v8 v9 v10=some st13:=hb14;unfold cS at h
  try dsimp only
  refine .sq ?_;refine .fH 3 rfl rfl rfl ?_;refine .al (.mv rfl<|.mv rfl<|.uW rfl aJ<|.cm rfl rfl rfl<|.nil) rfl ?_;by_cases c15:(decide (v8<(v9.length:Int)))=true
  ·replace h:=ab c15 h;refine .cl rfl c15 ?_;refine .skip (Ok.on ?_);obtain⟨o16,hp17,h⟩:=bind_some h;refine .cc (fun i=>o16=Ex.cd i) (fun(i:(List (List Rat))×Rat)=>[(2,D.ref 2 0),(3,D.own 11),(4,D.ref 4 0),(5,D.int .i64 v8)]) (fun(i:(List (List Rat))×Rat)=>[(2,Hp.box 37 (iq (0))),(11,Hp.cb ak.rq 69 4000011 ([])),(4000011,Hp.store ak.rq 37 i.1),(4,Hp.box 37 (iq (i.2)))]) ?_ ?_
   ·have ho3:=h;have h:=hp17;refine .block ?_;refine .al (.mv rfl<|.aq rfl<|.nil) rfl ?_;obtain⟨v31,hl20,h⟩:=bind_some h;refine .cc (fun i=>v31=i) (fun(i:Int)=>[(2,D.ref 2 0),(3,D.own 11),(4,D.ref 4 0),(5,D.int .i64 v8),(6,D.int .i64 i)]) (fun(i:Int)=>[(2,Hp.box 37 (iq (0))),(11,Hp.cb ak.rq 69 3000011 ([])),(3000011,Hp.store ak.rq 37 v9),(4,Hp.box 37 (iq (v10)))]) ?_ ?_
    ·have ho4:=h;refine .block (.bU (fun(s:Int)=>[(2,D.ref 2 0),(3,D.own 11),(4,D.ref 4 0),(5,D.int .i64 v8),(6,D.int .i64 s)]) (fun(s:Int)=>[(2,Hp.box 37 (iq (0))),(11,Hp.cb ak.rq 69 3000011 ([])),(3000011,Hp.store ak.rq 37 v9),(4,Hp.box 37 (iq (v10)))]) hl20 (.k rfl<|.p rfl .sl<|.k rfl<|.k rfl<|.k rfl<|trivial) (.of rfl) rfl rfl ?_);rintro v18 st21 hb22;have h:nf v8 v9 v18=some st21:=hb22;unfold nf at h
     try dsimp only
     refine .sq ?_;refine .fH 3 rfl rfl rfl ?_;by_cases c23:(decide (v18<(v9.length:Int)))=true
     ·replace h:=ab c23 h;obtain⟨v24,e25,h⟩:=bind_some h;obtain⟨v26,e27,h⟩:=bind_some h;obtain⟨v28,e29,h⟩:=bind_some h;refine .al (.mv rfl<|.mv rfl<|.uW rfl aJ<|.cm rfl rfl rfl<|.mv rfl<|.gy c23<|.mv rfl<|.gy c23<|.mv rfl<|.gy c23<|.ic rfl rfl aF (af e25).1 (by have:=dE e25;simpa using this)<|.gy c23<|.jl (bn e25) rfl rfl rfl rfl aM<|.gy c23<|.mv rfl<|.gy c23<|.lQ rfl rfl rfl (af e25).2 bk (af e27).1 (dE e27) rfl<|.gy c23<|.gJ rfl rfl (af e25).2 (af e27).2 aj rfl rfl<|.gy c23<|.ag (wY e29) ⟨rfl,trivial⟩ trivial trivial<|.gy c23<|.cm rfl rfl rfl<|.aX rfl c23 rfl<|.nil) rfl ?_;by_cases c30:(v28==0)=true
      ·replace h:=ab c30 h;refine .cl rfl c30 ?_;refine .skip (Ok.on ?_);refine .block ?_;refine .region (.mv rfl<|.ar rfl rfl rfl<|.aq rfl<|.nil) rfl (fun _ _ hs=>⟨(IntKind.i64.wrap (v18+1)),(sj h),hs.sub (.k rfl<|.p rfl .sl<|.k rfl<|.k rfl<|.k rfl<|trivial) (.of rfl) rfl rfl⟩)
      ·replace h:=aa c30 h;refine .cq rfl c30 ?_;refine .exit (fun _ _ hs=>⟨_,(sj h),fun e=>⟨v18,e.symm,hs.sub (.k rfl<|.p rfl .sl<|.k rfl<|.k rfl<|.k rfl<|trivial) (.of rfl) rfl rfl⟩⟩)
     ·replace h:=aa c23 h;refine .al (.mv rfl<|.mv rfl<|.uW rfl aJ<|.cm rfl rfl rfl<|.mv rfl<|.gm c23<|.gm c23<|.gm c23<|.gm c23<|.gm c23<|.gm c23<|.gm c23<|.gm c23<|.gm c23<|.aT rfl c23 rfl<|.nil) rfl ?_;refine .cq rfl (by decide) ?_;refine .exit (fun _ _ hs=>⟨_,(sj h),fun e=>⟨v18,e.symm,hs.sub (.k rfl<|.p rfl .sl<|.k rfl<|.k rfl<|.k rfl<|trivial) (.of rfl) rfl rfl⟩⟩)
    ·rintro _ rfl
     try dsimp only
     refine .sq ?_;refine .fH 3 rfl rfl rfl ?_;refine .al (.mv rfl<|.mv rfl<|.uW rfl aJ<|.cm rfl rfl rfl<|.nil) rfl ?_;by_cases c32:(v31==(v9.length:Int))=true
     ·replace h:=ab c32 h;refine .cl rfl c32 ?_;refine .al (.n_ (iq (0)) [] br gM trivial trivial ⟨C8,C0,.refl _,EG,trivial⟩<|.cU (iq (0)) rfl rfl rfl aj rfl rfl rfl<|.nil) rfl ?_;cases h;have h:=ho3;refine .aO (Hi:=[]) (Ho:=[]) (b:=b) (fn:=Go.Proofs.Tryz.f133) (d:=pZ 0) (fun _ _ hb=>by exact⟨_,(sj h),fun e=>by subst e;have h:=ho2;cases h;have h:=ho1;cases h;exact hb⟩) rfl (.cons (.agg rfl rfl aj rfl) .nil) (.refl _) trivial trivial
     ·replace h:=aa c32 h;refine .cq rfl c32 ?_;refine .skip (Ok.on ?_);obtain⟨o33,hp34,h⟩:=bind_some h;refine .cc (fun i=>o33=i) (fun(i:(List (List Rat))×Rat)=>[(2,D.ref 2 0),(3,D.own 11),(4,D.ref 4 0),(5,D.int .i64 v8)]) (fun(i:(List (List Rat))×Rat)=>[(2,Hp.box 37 (iq (0))),(11,Hp.cb ak.rq 69 4000011 ([])),(4000011,Hp.store ak.rq 37 i.1),(4,Hp.box 37 (iq (i.2)))]) ?_ ?_
      ·have ho4:=h;have h:=hp34;refine .al (.mv rfl<|.mv rfl<|.cm rfl rfl rfl<|.nil) rfl ?_;by_cases c35:(v31 !=v8)=true
       ·replace h:=ab c35 h;refine .cl rfl c35 ?_;obtain⟨v36,e37,h⟩:=bind_some h;obtain⟨v38,e39,h⟩:=bind_some h;obtain⟨v40,e41,h⟩:=bind_some h;obtain⟨v42,e43,h⟩:=bind_some h;refine .cZ cf (.mv rfl<|.mv rfl<|.mv rfl<|.mv rfl<|.mv rfl<|.mv rfl<|.ic rfl rfl aF (af e37).1 (by have:=dE e37;simpa using this)<|.jl (bn e37) rfl rfl rfl rfl aM<|.mv rfl<|.mv rfl<|.ic rfl rfl aF (af e39).1 (by have:=dE e39;simpa using this)<|.jl (bn e39) rfl rfl rfl rfl aM<|.ic rfl rfl aF (af e41).1 (by have:=dE e41;simpa using this)<|.Jp (bn e41) rfl rfl rfl rfl rfl aM<|.ic rfl rfl aF (af e43).1 (by have:=dE e43;simpa using this)<|.Jv (by have:=bn e43;simpa using this) rfl rfl rfl rfl rfl aM<|.nil) rfl (by kernel_rfl) ?_;refine .Be (r:=11) (s:=3000011) (i:=v8) (k:=v31) 4000011 rfl rfl rfl rfl (af e41).2 (af e37).2 ?_;obtain⟨v44,e45,h⟩:=bind_some h;refine .region (.ck (iq (v10)) rfl rfl aj rfl rfl<|.ag (IK e45) ⟨rfl,trivial⟩ trivial trivial<|.cU (iq (v44)) rfl rfl rfl aj rfl rfl rfl<|.nil) rfl (fun _ _ hs=>⟨(((v9.set v8.toNat v36).set v31.toNat v40),v44),(sj h),hs.sub (.k rfl<|.p rfl .sl<|.k rfl<|.k rfl<|trivial) (.of rfl) rfl rfl⟩)
       ·replace h:=aa c35 h;refine .cq rfl c35 ?_;refine .skip (fun _ _ hs=>⟨(v9,v10),(sj h),hs.kz (fun r=>match r with|4000011=>3000011|r=>r) (.p rfl (.ref (r:=2))<|.p rfl (.Gi (r:=11))<|.p rfl (.ref (r:=4))<|.r rfl rfl<|trivial) (.r rfl rfl<|.p rfl (.cb (s:=4000011))<|.r rfl rfl<|.r rfl rfl<|trivial) rfl rfl rfl⟩)
      ·rintro⟨v46,v47⟩ rfl
       try dsimp only
       refine .fH 3 rfl rfl rfl ?_;obtain⟨v48,e49,h⟩:=bind_some h;obtain⟨v50,e51,h⟩:=bind_some h;obtain⟨v52,e53,h⟩:=bind_some h;refine .cZ cf (.ck (iq (v47)) rfl rfl aj rfl rfl<|.mv rfl<|.mv rfl<|.ic rfl rfl aF (af e49).1 (by have:=dE e49;simpa using this)<|.jl (bn e49) rfl rfl rfl rfl aM<|.mv rfl<|.lQ rfl rfl rfl (af e49).2 bk (af e51).1 (dE e51) rfl<|.gJ rfl rfl (af e49).2 (af e51).2 aj rfl rfl<|.ag (yd e53) ⟨rfl,rfl,trivial⟩ trivial trivial<|.cU (iq (v52)) rfl rfl rfl aj rfl rfl rfl<|.nil) rfl (by kernel_rfl) ?_;refine .al (.mv rfl<|.ar rfl rfl rfl<|.aq rfl<|.nil) rfl ?_;obtain⟨o56,hl57,h⟩:=bind_some h;have ho4:=h;refine .block (.bU (fun(s:Int×(List (List Rat)))=>[(2,D.ref 2 0),(3,D.own 11),(4,D.ref 4 0),(5,D.int .i64 v8),(7,D.int .i64 s.1)]) (fun(s:Int×(List (List Rat)))=>[(2,Hp.box 37 (iq (0))),(11,Hp.cb ak.rq 69 4000011 ([])),(4000011,Hp.store ak.rq 37 s.2),(4,Hp.box 37 (iq (v52)))]) hl57 (.k rfl<|.p rfl .sl<|.k rfl<|.k rfl<|.k rfl<|trivial) (.of rfl) rfl rfl ?_);rintro⟨v54,v55⟩ st58 hb59;have h:ja v8 v54 v55=some st58:=hb59;unfold ja at h
       try dsimp only
       refine .sq ?_;refine .fH 3 rfl rfl rfl ?_;refine .al (.mv rfl<|.mv rfl<|.uW rfl aJ<|.cm rfl rfl rfl<|.nil) rfl ?_;by_cases c60:(decide (v54<(v55.length:Int)))=true
       ·replace h:=ab c60 h;refine .cl rfl c60 ?_;refine .skip (Ok.on ?_);obtain⟨v97,hp62,h⟩:=bind_some h;refine .cc (fun i=>v97=i) (fun(i:(List (List Rat)))=>[(2,D.ref 2 0),(3,D.own 11),(4,D.ref 4 0),(5,D.int .i64 v8),(7,D.int .i64 v54)]) (fun(i:(List (List Rat)))=>[(2,Hp.box 37 (iq (0))),(11,Hp.cb ak.rq 69 4000011 ([])),(4000011,Hp.store ak.rq 37 i),(4,Hp.box 37 (iq (v52)))]) ?_ ?_
        ·have ho5:=h;have h:=hp62;refine .block ?_;obtain⟨v63,e64,h⟩:=bind_some h;obtain⟨v65,e66,h⟩:=bind_some h;obtain⟨v67,e68,h⟩:=bind_some h;obtain⟨v69,e70,h⟩:=bind_some h;obtain⟨v71,e72,h⟩:=bind_some h;refine .cZ cf (.mv rfl<|.mv rfl<|.ic rfl rfl aF (af e64).1 (by have:=dE e64;simpa using this)<|.jl (bn e64) rfl rfl rfl rfl aM<|.mv rfl<|.lQ rfl rfl rfl (af e64).2 bk (af e66).1 (dE e66) rfl<|.gJ rfl rfl (af e64).2 (af e66).2 aj rfl rfl<|.mv rfl<|.mv rfl<|.ic rfl rfl aF (af e68).1 (by have:=dE e68;simpa using this)<|.jl (bn e68) rfl rfl rfl rfl aM<|.mv rfl<|.lQ rfl rfl rfl (af e68).2 bk (af e70).1 (dE e70) rfl<|.gJ rfl rfl (af e68).2 (af e70).2 aj rfl rfl<|.ag (DV e72) ⟨rfl,rfl,trivial⟩ trivial trivial<|.fN (iq (0)) br ⟨C8,C0,.refl _,EG,trivial⟩ rfl<|.cU (iq (v71)) rfl rfl rfl aj rfl rfl rfl<|.nil) rfl (by kernel_rfl) ?_;refine .al (.mv rfl<|.aq rfl<|.nil) rfl ?_;obtain⟨o75,hl76,h⟩:=bind_some h;have ho6:=h;refine .block (.bU (fun(s:Int×(List (List Rat)))=>[(2,D.ref 2 0),(3,D.own 11),(4,D.ref 4 0),(5,D.int .i64 v8),(7,D.int .i64 v54),(8,D.ref 8 0),(9,D.int .i64 s.1)]) (fun(s:Int×(List (List Rat)))=>[(2,Hp.box 37 (iq (0))),(11,Hp.cb ak.rq 69 4000011 ([])),(4000011,Hp.store ak.rq 37 s.2),(4,Hp.box 37 (iq (v52))),(8,Hp.box 37 (iq (v71)))]) hl76 (.k rfl<|.p rfl .sl<|.k rfl<|.k rfl<|.k rfl<|.k rfl<|.k rfl<|trivial) (.of rfl) rfl rfl ?_);rintro⟨v73,v74⟩ st77 hb78;have h:lP v8 v54 v71 v73 v74=some st77:=hb78;unfold lP at h
         try dsimp only
         refine .sq ?_;refine .fH 3 rfl rfl rfl ?_;refine .al (.mv rfl<|.mv rfl<|.uW rfl aJ<|.cm rfl rfl rfl<|.nil) rfl ?_;by_cases c79:(decide (v73<(v74.length:Int)))=true
         ·replace h:=ab c79 h;refine .cl rfl c79 ?_;refine .skip (Ok.on ?_);refine .sq ?_;refine .block ?_;obtain⟨v80,e81,h⟩:=bind_some h;obtain⟨v82,e83,h⟩:=bind_some h;obtain⟨v84,e85,h⟩:=bind_some h;obtain⟨v86,e87,h⟩:=bind_some h;obtain⟨v88,e89,h⟩:=bind_some h;obtain⟨v90,e91,h⟩:=bind_some h;obtain⟨v92,e93,h⟩:=bind_some h;obtain⟨v94,e95,h⟩:=bind_some h;refine .c_ cf (.mv rfl<|.mv rfl<|.ic rfl rfl aF (af e81).1 (by have:=dE e81;simpa using this)<|.jl (bn e81) rfl rfl rfl rfl aM<|.mv rfl<|.mv rfl<|.mv rfl<|.ic rfl rfl aF (af e83).1 (by have:=dE e83;simpa using this)<|.jl (bn e83) rfl rfl rfl rfl aM<|.mv rfl<|.lQ rfl rfl rfl (af e83).2 bk (af e85).1 (dE e85) rfl<|.gJ rfl rfl (af e83).2 (af e85).2 aj rfl rfl<|.ck (iq (v71)) rfl rfl aj rfl rfl<|.mv rfl<|.mv rfl<|.ic rfl rfl aF (af e87).1 (by have:=dE e87;simpa using this)<|.jl (bn e87) rfl rfl rfl rfl aM<|.mv rfl<|.lQ rfl rfl rfl (af e87).2 bk (af e89).1 (dE e89) rfl<|.gJ rfl rfl (af e87).2 (af e89).2 aj rfl rfl<|.ag (yd e91) ⟨rfl,rfl,trivial⟩ trivial trivial<|.ag (G8 e93) ⟨rfl,rfl,trivial⟩ trivial trivial<|.lQ rfl rfl rfl (af e81).2 bk (af e95).1 (dE e95) rfl<|.xr v92 rfl rfl rfl (af e81).2 (bn e95) aj rfl rfl rfl<|.nil) rfl (by kernel_rfl) (Ok.on ?_);refine .region (.mv rfl<|.ar rfl rfl rfl<|.aq rfl<|.nil) rfl (fun _ _ hs=>⟨((IntKind.i64.wrap (v73+1)),(v74.set v54.toNat (v80.set v73.toNat v92))),(sj h),hs.sub (.k rfl<|.p rfl .sl<|.k rfl<|.k rfl<|.k rfl<|.k rfl<|.k rfl<|trivial) (.of rfl) rfl rfl⟩)
         ·replace h:=aa c79 h;refine .cq rfl c79 ?_;refine .exit (fun a w hs=>⟨_,(sj h),fun e=>by subst e;have h:=ho6;exact aS (⟨v74,(sj h),hs.sub (.k rfl<|.p rfl .sl<|.k rfl<|.k rfl<|.k rfl<|trivial) (.of rfl) rfl rfl⟩)⟩)
        ·rintro _ rfl
         try dsimp only
         refine .region (.mv rfl<|.ar rfl rfl rfl<|.aq rfl<|.nil) rfl (fun _ _ hs=>⟨((IntKind.i64.wrap (v54+1)),v97),(sj h),hs.sub (.of rfl) (.of rfl) rfl rfl⟩)
       ·replace h:=aa c60 h;refine .cq rfl c60 ?_;refine .exit (fun a w hs=>⟨_,(sj h),fun e=>by subst e;have h:=ho4;exact aS (⟨(v55,v52),(sj h),hs.sub (.k rfl<|.p rfl .sl<|.k rfl<|.k rfl<|trivial) (.of rfl) rfl rfl⟩)⟩)
   ·rintro⟨v99,v100⟩ rfl
    try dsimp only
    refine .region (.mv rfl<|.ar rfl rfl rfl<|.aq rfl<|.nil) rfl (fun _ _ hs=>⟨((IntKind.i64.wrap (v8+1)),v99,v100),(sj h),hs.kz (fun r=>match r with|3000011=>4000011|r=>r) (.p rfl (.ref (r:=2))<|.p rfl (.own (r:=11))<|.p rfl (.ref (r:=4))<|.r rfl rfl<|trivial) (.r rfl rfl<|.p rfl (.cb (s:=3000011))<|.r rfl rfl<|.r rfl rfl<|trivial) rfl rfl rfl⟩)
  ·replace h:=aa c15 h;refine .cq rfl c15 ?_;refine .exit (fun a w hs=>⟨_,(sj h),fun e=>by subst e;have h:=ho2;exact aS (⟨v10,(sj h),hs.sub (.of rfl) (.of rfl) rfl rfl⟩)⟩)
 ·rintro v104 rfl
  try dsimp only
  refine .al (.ck (iq (v104)) rfl rfl aj rfl rfl<|.cU (iq (v104)) rfl rfl rfl aj rfl rfl rfl<|.nil) rfl ?_;cases h;refine .aO (fun _ _ hb=>hb) rfl (.cons (.agg rfl rfl aj rfl) .nil) (.refl _) trivial trivial
def fe(a1:List (List Rat))(v4:Int)(v5:List (List Rat)):Option (St (Int×(List (List Rat))) (List (List Rat))):=(if(decide (v4<(a1.length:Int)))=true then(ix a1 v4).bind fun v11=>cj (v11.length*64<=140737488355328/\v11.length<=9223372036854775807) (cj ((0:Int)<=(a1.length:Int)/\(v11.length+(a1.length:Int).toNat)*64<=140737488355328/\v11.length+(a1.length:Int).toNat<=9223372036854775807) ((fY 1).bind fun v15=>(ix (v11++List.replicate (a1.length:Int).toNat (0:Rat)) (IntKind.i64.wrap ((a1.length:Int)+v4))).bind fun v17=>cj ((v5.length+1)*24<=140737488355328/\v5.length+1<=9223372036854775807) (some (St.next ((IntKind.i64.wrap (v4+1)),(v5++[((v11++List.replicate (a1.length:Int).toNat (0:Rat)).set (IntKind.i64.wrap ((a1.length:Int)+v4)).toNat v15)]))))))else some (St.done v5))
def eD(a1:List (List Rat))(v22:List (List Rat))(v34:Int)(v35:List (List Rat)):Option (St (Int×(List (List Rat))) (List (List Rat))):=(if(decide (v34<(v22.length:Int)))=true then(ix v22 v34).bind fun v41=>cj ((0:Int)<=(a1.length:Int)/\((a1.length:Int):Int)<=(v41.length:Int)) (cj ((List.drop (a1.length:Int).toNat v41).length*64<=140737488355328/\(List.drop (a1.length:Int).toNat v41).length<=9223372036854775807) (cj ((v35.length+1)*24<=140737488355328/\v35.length+1<=9223372036854775807) (some (St.next ((IntKind.i64.wrap (v34+1)),(v35++[(List.drop (a1.length:Int).toNat v41)]))))))else some (St.done v35))
def iw(a1:List (List Rat)):Option ((List (List Rat))×Bool):=((Loop (fun(s:Int×(List (List Rat)))=>fe a1 s.1 s.2) (0,([]:List (List Rat)))).bind fun v20=>some (v20)).bind fun v21=>(oq v21).bind fun(v22,v23)=>((if(decide ((v23.length:Int)<(a1.length:Int)))=true then some (Ex.ret ([],false))else(if(decide ((a1.length:Int)>0))=true then(ix v23 (IntKind.i64.wrap ((a1.length:Int)-1))).bind fun v29=>(if(v29 !=(IntKind.i64.wrap ((a1.length:Int)-1)))=true then some (Ex.ret ([],false))else some (Ex.cd ()))else some (Ex.cd ())))).bind fun o25=>(match o25 with|Ex.cd ()=>((Loop (fun(s:Int×(List (List Rat)))=>eD a1 v22 s.1 s.2) (0,([]:List (List Rat)))).bind fun v46=>some (v46)).bind fun v47=>some (v47,true)|Ex.ret (r48,r49)=>some (r48,r49))
theorem yF{a1:List (List Rat)}{r50:List (List Rat)}{r51:Bool}(h:iw a1=some (r50,r51)):bf PP 134 [] [ai (ak.slice ak.rq) a1] [] (D.ig [ai (ak.slice ak.rq) r50,D.bool r51]):=by
 unfold iw at h;refine .of Go.Proofs.Tryz.func134 rfl (by kernel_rfl) rfl rfl rfl rfl rfl rfl (fun A w0 L b=>?_);show Ok PP _ [(0,ai (ak.slice ak.rq) a1)] [] _ _;refine .al (.aq rfl<|.aq rfl<|.nil) rfl ?_;refine .al (.aq rfl<|.nil) rfl ?_;obtain⟨v21,hp3,h⟩:=bind_some h;refine .cc (fun i=>v21=i) (fun(i:(List (List Rat)))=>[(0,ai (ak.slice ak.rq) a1),(4,D.own 2000004)]) (fun(i:(List (List Rat)))=>[(2000004,Hp.cb ak.rq 69 4000004 ([])),(4000004,Hp.store ak.rq 37 i)]) ?_ ?_
 ·have ho1:=h;have h:=hp3;refine .al (.aq rfl<|.nil) rfl ?_;refine .Fe ak.rq 4 2000004 4000004 69 37 rfl rfl rfl rfl ?_;obtain⟨o6,hl7,h⟩:=bind_some h;have ho2:=h;refine .block (.bU (fun(s:Int×(List (List Rat)))=>[(0,ai (ak.slice ak.rq) a1),(4,D.own 2000004),(5,D.int .i64 s.1)]) (fun(s:Int×(List (List Rat)))=>[(2000004,Hp.cb ak.rq 69 4000004 ([])),(4000004,Hp.store ak.rq 37 s.2)]) hl7 (.of rfl) (.of rfl) rfl rfl ?_);rintro⟨v4,v5⟩ st8 hb9;have h:fe a1 v4 v5=some st8:=hb9;unfold fe at h
  try dsimp only
  refine .sq ?_;refine .al (.mv rfl<|.mv rfl<|.ec rfl aJ<|.cm rfl rfl rfl<|.nil) rfl ?_;by_cases c10:(decide (v4<(a1.length:Int)))=true
  ·replace h:=ab c10 h;refine .cl rfl c10 ?_;refine .skip (Ok.on ?_);refine .sq ?_;refine .block ?_;obtain⟨v11,e12,h⟩:=bind_some h;obtain⟨k13,h⟩:=av h;obtain⟨k14,h⟩:=av h;refine .al (.mv rfl<|.mv rfl<|.ll rfl rfl aF (af e12).1 (af e12).2<|.i6 rfl aM<|.JN (r':=5000021) (e:=ak.rq) (ys:=v11) rfl rfl (.refl _) dG rfl k13.1 k13.2 rfl rfl (by decide)<|.mv rfl<|.ec rfl aJ<|.Jn 0 rfl (.refl _) rfl rfl dG (by kernel_rfl) rfl ⟨C8,C0,.refl _,EG,trivial⟩ k14.1 k14.2.1 k14.2.2 rfl<|.aq rfl<|.nil) rfl ?_;refine .sl 6 rfl rfl rfl ?_;obtain⟨v15,e16,h⟩:=bind_some h;obtain⟨v17,e18,h⟩:=bind_some h;refine .al (.mv rfl<|.mv rfl<|.ec rfl aJ<|.mv rfl<|.ar rfl rfl rfl<|.ag (DY e16) ⟨rfl,trivial⟩ trivial trivial<|.ic rfl rfl bk (af e18).1 (by have:=dE e18;simpa using this)<|.IU v15 rfl rfl rfl aj rfl rfl rfl (bn e18)<|.nil) rfl ?_;refine .fH 4 rfl rfl rfl ?_;refine .sQ 6 (.own 24) rfl .sl ?_;refine .sQ 25 (.own 24) rfl .sl ?_;obtain⟨k19,h⟩:=av h;refine .region (.mv rfl<|.mv rfl<|.Jw rfl cM rfl<|.Jo (s2:=3000035) rfl .sl rfl rfl rfl rfl rfl cM k19.1 k19.2 rfl rfl ⟨by decide,by decide,by decide,by decide,by decide,by decide,by decide⟩<|.aq rfl<|.nil) rfl (Ok.on ?_);refine .region (.mv rfl<|.ar rfl rfl rfl<|.aq rfl<|.nil) rfl (fun _ _ hs=>⟨((IntKind.i64.wrap (v4+1)),(v5++[((v11++List.replicate (a1.length:Int).toNat (0:Rat)).set (IntKind.i64.wrap ((a1.length:Int)+v4)).toNat v15)])),(sj h),hs.kz (fun r=>match r with|2000004=>35|4000004=>3000035|r=>r) (.r rfl rfl<|.p rfl (.own (r:=2000004))<|.r rfl rfl<|trivial) (.p rfl (.cb (s:=4000004))<|.r rfl rfl<|trivial) rfl rfl rfl⟩)
  ·replace h:=aa c10 h;refine .cq rfl c10 ?_;refine .exit (fun a w hs=>⟨_,(sj h),fun e=>by subst e;have h:=ho2;exact aS (⟨v5,(sj h),hs.sub (.of rfl) (.of rfl) rfl rfl⟩)⟩)
 ·rintro _ rfl
  try dsimp only
  refine .fH 4 rfl rfl rfl ?_;refine .sQ 4 (.own 2000004) rfl .sl ?_;refine .yL 4 rfl rfl rfl rfl rfl ?_;obtain⟨⟨v22,v23⟩,e24,h⟩:=bind_some h;refine .al (.mv rfl<|.ag (Eh e24) ⟨rfl,trivial⟩ trivial trivial<|.mv rfl<|.ext rfl rfl<|.ext rfl rfl<|.aq rfl<|.aq rfl<|.nil) rfl ?_;obtain⟨o25,hp26,h⟩:=bind_some h;refine .cc (fun i=>o25=Ex.cd i) (fun(i:Unit)=>[(0,ai (ak.slice ak.rq) a1),(7,ai (ak.slice ak.rq) v22)]) (fun(i:Unit)=>[]) ?_ ?_
  ·have ho1:=h;have h:=hp26;by_cases c27:(decide ((v23.length:Int)<(a1.length:Int)))=true
   ·replace h:=ab c27 h;refine .al (.mv rfl<|.ec rfl bK<|.mv rfl<|.ec rfl aJ<|.cm rfl rfl rfl<|.mv rfl<|.gk c27<|.gk c27<|.gk c27<|.gk c27<|.gu<|.gu<|.gu<|.gu<|.gu<|.gu<|.gu<|.gu<|.gu<|.gu<|.gk c27<|.aX rfl c27 rfl<|.nil) rfl ?_;refine .cl rfl rfl ?_;refine .al (.aq rfl<|.aq rfl<|.nil) rfl ?_;cases h;have h:=ho1;cases h;refine .aO (fun _ _ hb=>hb) rfl (.cons (.tmp rfl) (.t1 (.tmp rfl))) (.ig ⟨.jF _,.refl _,trivial⟩) trivial trivial
   ·replace h:=aa c27 h;by_cases c28:(decide ((a1.length:Int)>0))=true
    ·replace h:=ab c28 h;obtain⟨v29,e30,h⟩:=bind_some h;refine .al (.mv rfl<|.ec rfl bK<|.mv rfl<|.ec rfl aJ<|.cm rfl rfl rfl<|.mv rfl<|.gz c27<|.mv rfl<|.gz c27<|.ec rfl aJ<|.gz c27<|.cm rfl rfl rfl<|.gz c27<|.mv rfl<|.gy c28<|.mv rfl<|.gy c28<|.mv rfl<|.gy c28<|.ec rfl aJ<|.gy c28<|.ar rfl rfl rfl<|.gy c28<|.ll rfl rfl dX (af e30).1 (af e30).2<|.gy c28<|.i6 rfl dQ<|.gy c28<|.mv rfl<|.gy c28<|.ec rfl aJ<|.gy c28<|.ar rfl rfl rfl<|.gy c28<|.cm rfl rfl rfl<|.gz c27<|.aX rfl c28 rfl<|.aT rfl c27 rfl<|.nil) rfl ?_;by_cases c31:(v29 !=(IntKind.i64.wrap ((a1.length:Int)-1)))=true
     ·replace h:=ab c31 h;refine .cl rfl c31 ?_;refine .al (.aq rfl<|.aq rfl<|.nil) rfl ?_;cases h;have h:=ho1;cases h;refine .aO (fun _ _ hb=>hb) rfl (.cons (.tmp rfl) (.t1 (.tmp rfl))) (.ig ⟨.jF _,.refl _,trivial⟩) trivial trivial
     ·replace h:=aa c31 h;refine .cq rfl c31 ?_;refine .skip (fun _ _ hs=>⟨(),(sj h),hs.sub (.of rfl) trivial rfl rfl⟩)
    ·replace h:=aa c28 h;refine .al (.mv rfl<|.ec rfl bK<|.mv rfl<|.ec rfl aJ<|.cm rfl rfl rfl<|.mv rfl<|.gz c27<|.mv rfl<|.gz c27<|.ec rfl aJ<|.gz c27<|.cm rfl rfl rfl<|.gz c27<|.mv rfl<|.gm c28<|.gm c28<|.gm c28<|.gm c28<|.gm c28<|.gm c28<|.gm c28<|.gm c28<|.gm c28<|.gm c28<|.gz c27<|.aT rfl c28 rfl<|.aT rfl c27 rfl<|.nil) rfl ?_;refine .cq rfl (by decide) ?_;refine .skip (fun _ _ hs=>⟨(),(sj h),hs.sub (.of rfl) trivial rfl rfl⟩)
  ·rintro⟨⟩ rfl
   try dsimp only
   refine .al (.aq rfl<|.nil) rfl ?_;obtain⟨v47,hp33,h⟩:=bind_some h;refine .cc (fun i=>v47=i) (fun(i:(List (List Rat)))=>[(9,D.own 2000009)]) (fun(i:(List (List Rat)))=>[(2000009,Hp.cb ak.rq 69 4000009 ([])),(4000009,Hp.store ak.rq 37 i)]) ?_ ?_
   ·have ho1:=h;have h:=hp33;refine .al (.aq rfl<|.nil) rfl ?_;refine .Fe ak.rq 9 2000009 4000009 69 37 rfl rfl rfl rfl ?_;obtain⟨o36,hl37,h⟩:=bind_some h;have ho2:=h;refine .block (.bU (fun(s:Int×(List (List Rat)))=>[(0,ai (ak.slice ak.rq) a1),(7,ai (ak.slice ak.rq) v22),(9,D.own 2000009),(10,D.int .i64 s.1)]) (fun(s:Int×(List (List Rat)))=>[(2000009,Hp.cb ak.rq 69 4000009 ([])),(4000009,Hp.store ak.rq 37 s.2)]) hl37 (.of rfl) (.of rfl) rfl rfl ?_);rintro⟨v34,v35⟩ st38 hb39;have h:eD a1 v22 v34 v35=some st38:=hb39;unfold eD at h
    try dsimp only
    refine .sq ?_;refine .al (.mv rfl<|.mv rfl<|.ec rfl aJ<|.cm rfl rfl rfl<|.nil) rfl ?_;by_cases c40:(decide (v34<(v22.length:Int)))=true
    ·replace h:=ab c40 h;refine .cl rfl c40 ?_;refine .skip (Ok.on ?_);refine .sq ?_;refine .block ?_;refine .fH 9 rfl rfl rfl ?_;obtain⟨v41,e42,h⟩:=bind_some h;obtain⟨k43,h⟩:=av h;obtain⟨k44,h⟩:=av h;obtain⟨k45,h⟩:=av h;refine .region (.mv rfl<|.mv rfl<|.mv rfl<|.ll rfl rfl aF (af e42).1 (af e42).2<|.i6 rfl aM<|.mv rfl<|.ec rfl aJ<|.JD rfl rfl bk k43.1 k43.2<|.JN (r':=5000077) (e:=ak.rq) (ys:=(List.drop (a1.length:Int).toNat v41)) rfl rfl (.refl _) dG rfl k44.1 k44.2 rfl rfl (by decide)<|.Jw rfl cM rfl<|.Jo (s2:=3000079) rfl .sl rfl rfl rfl rfl rfl cM k45.1 k45.2 rfl rfl ⟨by decide,by decide,by decide,by decide,by decide,by decide,by decide⟩<|.aq rfl<|.nil) rfl (Ok.on ?_);refine .region (.mv rfl<|.ar rfl rfl rfl<|.aq rfl<|.nil) rfl (fun _ _ hs=>⟨((IntKind.i64.wrap (v34+1)),(v35++[(List.drop (a1.length:Int).toNat v41)])),(sj h),hs.kz (fun r=>match r with|2000009=>79|4000009=>3000079|r=>r) (.r rfl rfl<|.r rfl rfl<|.p rfl (.own (r:=2000009))<|.r rfl rfl<|trivial) (.p rfl (.cb (s:=4000009))<|.r rfl rfl<|trivial) rfl rfl rfl⟩)
    ·replace h:=aa c40 h;refine .cq rfl c40 ?_;refine .exit (fun a w hs=>⟨_,(sj h),fun e=>by subst e;have h:=ho2;exact aS (⟨v35,(sj h),hs.sub (.of rfl) (.of rfl) rfl rfl⟩)⟩)
   ·rintro _ rfl
    try dsimp only
    refine .fH 9 rfl rfl rfl ?_;refine .al (.mv rfl<|.aq rfl<|.aq rfl<|.nil) rfl ?_;refine .sQ 2 (.own 2000009) rfl .sl ?_;refine .yL 2 rfl rfl rfl rfl rfl ?_;cases h;refine .aO (fun _ _ hb=>hb) rfl (.cons (.tmp rfl) (.t1 (.tmp rfl))) (.refl _) trivial trivial
def b_(a1:List (List Rat))(v4:Int)(v12:Int):Option (St Int (Ex Unit Bool)):=(if(decide (v12<v4))=true then(ix a1 v4).bind fun v18=>(ix v18 v12).bind fun v20=>(ix a1 v12).bind fun v22=>(ix v22 v4).bind fun v24=>(lJ v20 v24).bind fun v26=>(if(v26 !=0)=true then some (St.done (Ex.ret false))else some (St.next (IntKind.i64.wrap (v12+1))))else some (St.done (Ex.cd ())))
def ca(a1:List (List Rat))(v4:Int):Option (St Int (Ex Unit Bool)):=(if(decide (v4<(a1.length:Int)))=true then((Loop (fun(s:Int)=>b_ a1 v4 s) 0).bind fun o13=>(match o13 with|Ex.cd ()=>some (Ex.cd ())|Ex.ret r29=>some (Ex.ret r29))).bind fun o10=>(match o10 with|Ex.cd ()=>some (St.next (IntKind.i64.wrap (v4+1)))|Ex.ret r30=>some (St.done (Ex.ret r30)))else some (St.done (Ex.cd ())))
def fE(a1:List (List Rat)):Option Bool:=((Loop (fun(s:Int)=>ca a1 s) 0).bind fun o5=>(match o5 with|Ex.cd ()=>some (Ex.cd ())|Ex.ret r31=>some (Ex.ret r31))).bind fun o2=>(match o2 with|Ex.cd ()=>some true|Ex.ret r32=>some r32)
theorem vh{a1:List (List Rat)}{r33:Bool}(h:fE a1=some r33):bf PP 135 [] [ai (ak.slice ak.rq) a1] [] (D.bool r33):=by
 unfold fE at h;refine .of Go.Proofs.Tryz.func135 rfl (by kernel_rfl) rfl rfl rfl rfl rfl rfl (fun A w0 L b=>?_);show Ok PP _ [(0,ai (ak.slice ak.rq) a1)] [] _ _;refine .al (.aq rfl<|.nil) rfl ?_;obtain⟨o2,hp3,h⟩:=bind_some h;refine .cc (fun i=>o2=Ex.cd i) (fun(i:Unit)=>[]) (fun(i:Unit)=>[]) ?_ ?_
 ·have ho1:=h;have h:=hp3;refine .al (.aq rfl<|.nil) rfl ?_;obtain⟨o5,hl6,h⟩:=bind_some h;have ho2:=h;refine .block (.bU (fun(s:Int)=>[(0,ai (ak.slice ak.rq) a1),(3,D.int .i64 s)]) (fun(s:Int)=>[]) hl6 (.of rfl) trivial rfl rfl ?_);rintro v4 st7 hb8;have h:ca a1 v4=some st7:=hb8;unfold ca at h
  try dsimp only
  refine .sq ?_;refine .al (.mv rfl<|.mv rfl<|.ec rfl aJ<|.cm rfl rfl rfl<|.nil) rfl ?_;by_cases c9:(decide (v4<(a1.length:Int)))=true
  ·replace h:=ab c9 h;refine .cl rfl c9 ?_;refine .skip (Ok.on ?_);obtain⟨o10,hp11,h⟩:=bind_some h;refine .cc (fun i=>o10=Ex.cd i) (fun(i:Unit)=>[(0,ai (ak.slice ak.rq) a1),(3,D.int .i64 v4)]) (fun(i:Unit)=>[]) ?_ ?_
   ·have ho3:=h;have h:=hp11;refine .block ?_;refine .al (.aq rfl<|.nil) rfl ?_;obtain⟨o13,hl14,h⟩:=bind_some h;have ho4:=h;refine .block (.bU (fun(s:Int)=>[(0,ai (ak.slice ak.rq) a1),(3,D.int .i64 v4),(4,D.int .i64 s)]) (fun(s:Int)=>[]) hl14 (.of rfl) trivial rfl rfl ?_);rintro v12 st15 hb16;have h:b_ a1 v4 v12=some st15:=hb16;unfold b_ at h
    try dsimp only
    refine .sq ?_;refine .al (.mv rfl<|.mv rfl<|.cm rfl rfl rfl<|.nil) rfl ?_;by_cases c17:(decide (v12<v4))=true
    ·replace h:=ab c17 h;refine .cl rfl c17 ?_;refine .skip (Ok.on ?_);refine .sq ?_;refine .block ?_;obtain⟨v18,e19,h⟩:=bind_some h;obtain⟨v20,e21,h⟩:=bind_some h;obtain⟨v22,e23,h⟩:=bind_some h;obtain⟨v24,e25,h⟩:=bind_some h;obtain⟨v26,e27,h⟩:=bind_some h;refine .cZ cf (.mv rfl<|.mv rfl<|.ll rfl rfl aF (af e19).1 (af e19).2<|.i6 rfl aM<|.mv rfl<|.ll rfl rfl bk (af e21).1 (af e21).2<|.Cy (l:=iq (v20)) rfl aj rfl<|.mv rfl<|.mv rfl<|.ll rfl rfl aF (af e23).1 (af e23).2<|.i6 rfl aM<|.mv rfl<|.ll rfl rfl bk (af e25).1 (af e25).2<|.Cy (l:=iq (v24)) rfl aj rfl<|.ag (Jg e27) ⟨rfl,rfl,trivial⟩ trivial trivial<|.cm rfl rfl rfl<|.nil) rfl (by kernel_rfl) ?_;by_cases c28:(v26 !=0)=true
     ·replace h:=ab c28 h;refine .cl rfl c28 ?_;refine .al (.aq rfl<|.nil) rfl ?_;refine .aO (Hi:=[]) (Ho:=[]) (b:=b) (fn:=Go.Proofs.Tryz.f135) (d:=D.bool false) (fun _ _ hb=>by exact⟨_,(sj h),fun e=>by subst e;have h:=ho4;cases h;have h:=ho3;exact⟨_,(sj h),fun e=>by subst e;have h:=ho2;cases h;have h:=ho1;cases h;exact hb⟩⟩) rfl (.t1 (.tmp rfl)) (.refl _) trivial trivial
     ·replace h:=aa c28 h;refine .cq rfl c28 ?_;refine .skip (Ok.on ?_);refine .region (.mv rfl<|.ar rfl rfl rfl<|.aq rfl<|.nil) rfl (fun _ _ hs=>⟨(IntKind.i64.wrap (v12+1)),(sj h),hs.sub (.of rfl) trivial rfl rfl⟩)
    ·replace h:=aa c17 h;refine .cq rfl c17 ?_;refine .exit (fun a w hs=>⟨_,(sj h),fun e=>by subst e;have h:=ho4;exact aS (⟨(),(sj h),hs.sub (.of rfl) trivial rfl rfl⟩)⟩)
   ·rintro⟨⟩ rfl
    try dsimp only
    refine .region (.mv rfl<|.ar rfl rfl rfl<|.aq rfl<|.nil) rfl (fun _ _ hs=>⟨(IntKind.i64.wrap (v4+1)),(sj h),hs.sub (.of rfl) trivial rfl rfl⟩)
  ·replace h:=aa c9 h;refine .cq rfl c9 ?_;refine .exit (fun a w hs=>⟨_,(sj h),fun e=>by subst e;have h:=ho2;exact aS (⟨(),(sj h),hs.sub trivial trivial rfl rfl⟩)⟩)
 ·rintro⟨⟩ rfl
  try dsimp only
  refine .al (.aq rfl<|.nil) rfl ?_;cases h;refine .aO (fun _ _ hb=>hb) rfl (.t1 (.tmp rfl)) (.refl _) trivial trivial
def dv(a1:List (List Rat))(v4:Int)(v13:Int)(v26:Int)(v27:List Rat):Option (St (Int×(List Rat)) (List Rat)):=(if(decide (v26<(a1.length:Int)))=true then(cj ((0:Int)<=(IntKind.u64.wrap v26)) ((if((Int.tmod (Int.fdiv v4 (2^(min (IntKind.u64.wrap v26).toNat IntKind.i64.bits))) 2)==1)=true then(ix a1 v13).bind fun v37=>(ix v37 v26).bind fun v39=>cj ((v27.length+([v39]).length)*64<=140737488355328/\v27.length+([v39]).length<=9223372036854775807) (some ((v27++[v39])))else some (v27)))).bind fun v42=>some (St.next ((IntKind.i64.wrap (v26+1)),v42))else some (St.done v27))
def dw(a1:List (List Rat))(v4:Int)(v13:Int)(v14:List (List Rat)):Option (St (Int×(List (List Rat))) (List (List Rat))):=(if(decide (v13<(a1.length:Int)))=true then(cj ((0:Int)<=(IntKind.u64.wrap v13)) ((if((Int.tmod (Int.fdiv v4 (2^(min (IntKind.u64.wrap v13).toNat IntKind.i64.bits))) 2)==0)=true then some (v14)else((Loop (fun(s:Int×(List Rat))=>dv a1 v4 v13 s.1 s.2) (0,([]:List Rat))).bind fun v43=>some (v43)).bind fun v44=>cj ((v14.length+1)*24<=140737488355328/\v14.length+1<=9223372036854775807) (some ((v14++[v44])))))).bind fun v46=>some (St.next ((IntKind.i64.wrap (v13+1)),v46))else some (St.done v14))
def bE(a1:List (List Rat))(v4:Int):Option (St Int (Ex Unit Bool)):=cj ((0:Int)<=(IntKind.u64.wrap (a1.length:Int))) ((if(decide (v4<(IntKind.i64.wrap (1*2^(min (IntKind.u64.wrap (a1.length:Int)).toNat IntKind.i64.bits)))))=true then((Loop (fun(s:Int×(List (List Rat)))=>dw a1 v4 s.1 s.2) (0,([]:List (List Rat)))).bind fun v47=>some (v47)).bind fun v48=>(oB v48).bind fun v49=>(cW v49).bind fun v51=>(if(decide (v51<0))=true then some (St.done (Ex.ret false))else some (St.next (IntKind.i64.wrap (v4+1))))else some (St.done (Ex.cd ()))))
def cK(a1:List (List Rat)):Option Bool:=((Loop (fun(s:Int)=>bE a1 s) 1).bind fun o5=>(match o5 with|Ex.cd ()=>some (Ex.cd ())|Ex.ret r54=>some (Ex.ret r54))).bind fun o2=>(match o2 with|Ex.cd ()=>some true|Ex.ret r55=>some r55)
theorem rD{a1:List (List Rat)}{r56:Bool}(h:cK a1=some r56):bf PP 136 [] [ai (ak.slice ak.rq) a1] [] (D.bool r56):=by
 unfold cK at h;refine .of Go.Proofs.Tryz.func136 rfl (by kernel_rfl) rfl rfl rfl rfl rfl rfl (fun A w0 L b=>?_);show Ok PP _ [(0,ai (ak.slice ak.rq) a1)] [] _ _;refine .al (.aq rfl<|.nil) rfl ?_;obtain⟨o2,hp3,h⟩:=bind_some h;refine .cc (fun i=>o2=Ex.cd i) (fun(i:Unit)=>[]) (fun(i:Unit)=>[]) ?_ ?_
 ·have ho1:=h;have h:=hp3;refine .al (.aq rfl<|.nil) rfl ?_;obtain⟨o5,hl6,h⟩:=bind_some h;have ho2:=h;refine .block (.bU (fun(s:Int)=>[(0,ai (ak.slice ak.rq) a1),(3,D.int .i64 s)]) (fun(s:Int)=>[]) hl6 (.of rfl) trivial rfl rfl ?_);rintro v4 st7 hb8;have h:bE a1 v4=some st7:=hb8;unfold bE at h
  try dsimp only
  refine .sq ?_;obtain⟨k9,h⟩:=av h;refine .al (.mv rfl<|.mv rfl<|.ec rfl aJ<|.cv rfl oa rfl<|.sh rfl rfl (JZ k9)<|.cm rfl rfl rfl<|.nil) rfl ?_;by_cases c10:(decide (v4<(IntKind.i64.wrap (1*2^(min (IntKind.u64.wrap (a1.length:Int)).toNat IntKind.i64.bits)))))=true
  ·replace h:=ab c10 h;refine .cl rfl c10 ?_;refine .skip (Ok.on ?_);refine .sq ?_;refine .block ?_;refine .al (.aq rfl<|.nil) rfl ?_;obtain⟨v48,hp12,h⟩:=bind_some h;refine .cc (fun i=>v48=i) (fun(i:(List (List Rat)))=>[(0,ai (ak.slice ak.rq) a1),(3,D.int .i64 v4),(4,D.own 2000004)]) (fun(i:(List (List Rat)))=>[(2000004,Hp.cb ak.rq 69 4000004 ([])),(4000004,Hp.store ak.rq 37 i)]) ?_ ?_
   ·have ho3:=h;have h:=hp12;refine .al (.aq rfl<|.nil) rfl ?_;refine .Fe ak.rq 4 2000004 4000004 69 37 rfl rfl rfl rfl ?_;obtain⟨o15,hl16,h⟩:=bind_some h;have ho4:=h;refine .block (.bU (fun(s:Int×(List (List Rat)))=>[(0,ai (ak.slice ak.rq) a1),(3,D.int .i64 v4),(4,D.own 2000004),(5,D.int .i64 s.1)]) (fun(s:Int×(List (List Rat)))=>[(2000004,Hp.cb ak.rq 69 4000004 ([])),(4000004,Hp.store ak.rq 37 s.2)]) hl16 (.of rfl) (.of rfl) rfl rfl ?_);rintro⟨v13,v14⟩ st17 hb18;have h:dw a1 v4 v13 v14=some st17:=hb18;unfold dw at h
    try dsimp only
    refine .sq ?_;refine .al (.mv rfl<|.mv rfl<|.ec rfl aJ<|.cm rfl rfl rfl<|.nil) rfl ?_;by_cases c19:(decide (v13<(a1.length:Int)))=true
    ·replace h:=ab c19 h;refine .cl rfl c19 ?_;refine .skip (Ok.on ?_);obtain⟨v46,hp21,h⟩:=bind_some h;refine .cc (fun i=>v46=i) (fun(i:(List (List Rat)))=>[(0,ai (ak.slice ak.rq) a1),(3,D.int .i64 v4),(4,D.own 2000004),(5,D.int .i64 v13)]) (fun(i:(List (List Rat)))=>[(2000004,Hp.cb ak.rq 69 4000004 ([])),(4000004,Hp.store ak.rq 37 i)]) ?_ ?_
     ·have ho5:=h;have h:=hp21;refine .block ?_;refine .sq ?_;obtain⟨k22,h⟩:=av h;refine .al (.mv rfl<|.mv rfl<|.cv rfl oa rfl<|.sh rfl rfl (Jd k22)<|.ar rfl rfl (tN (by decide))<|.cm rfl rfl rfl<|.nil) rfl ?_;by_cases c23:((Int.tmod (Int.fdiv v4 (2^(min (IntKind.u64.wrap v13).toNat IntKind.i64.bits))) 2)==0)=true
      ·replace h:=ab c23 h;refine .cl rfl c23 ?_;refine .exit (fun _ _ hs=>⟨v14,(sj h),hs.sub (.of rfl) (.of rfl) rfl rfl⟩)
      ·replace h:=aa c23 h;refine .cq rfl c23 ?_;refine .skip (Ok.on ?_);refine .al (.aq rfl<|.nil) rfl ?_;obtain⟨v44,hp25,h⟩:=bind_some h;refine .cc (fun i=>v44=i) (fun(i:(List Rat))=>[(0,ai (ak.slice ak.rq) a1),(3,D.int .i64 v4),(4,D.own 2000004),(5,D.int .i64 v13),(6,D.own 2000006)]) (fun(i:(List Rat))=>[(2000004,Hp.cb ak.rq 69 4000004 ([])),(4000004,Hp.store ak.rq 37 v14),(2000006,aY ak.rq 37 i)]) ?_ ?_
       ·have ho6:=h;have h:=hp25;refine .al (.aq rfl<|.nil) rfl ?_;refine .jF ak.rq 6 2000006 37 rfl rfl ?_;obtain⟨o28,hl29,h⟩:=bind_some h;have ho7:=h;refine .block (.bU (fun(s:Int×(List Rat))=>[(0,ai (ak.slice ak.rq) a1),(3,D.int .i64 v4),(4,D.own 2000004),(5,D.int .i64 v13),(6,D.own 2000006),(7,D.int .i64 s.1)]) (fun(s:Int×(List Rat))=>[(2000004,Hp.cb ak.rq 69 4000004 ([])),(4000004,Hp.store ak.rq 37 v14),(2000006,aY ak.rq 37 s.2)]) hl29 (.of rfl) (.of rfl) rfl rfl ?_);rintro⟨v26,v27⟩ st30 hb31;have h:dv a1 v4 v13 v26 v27=some st30:=hb31;unfold dv at h
        try dsimp only
        refine .sq ?_;refine .al (.mv rfl<|.mv rfl<|.ec rfl aJ<|.cm rfl rfl rfl<|.nil) rfl ?_;by_cases c32:(decide (v26<(a1.length:Int)))=true
        ·replace h:=ab c32 h;refine .cl rfl c32 ?_;refine .skip (Ok.on ?_);obtain⟨v42,hp34,h⟩:=bind_some h;refine .cc (fun i=>v42=i) (fun(i:(List Rat))=>[(0,ai (ak.slice ak.rq) a1),(3,D.int .i64 v4),(4,D.own 2000004),(5,D.int .i64 v13),(6,D.own 49),(7,D.int .i64 v26)]) (fun(i:(List Rat))=>[(2000004,Hp.cb ak.rq 69 4000004 ([])),(4000004,Hp.store ak.rq 37 v14),(49,aY ak.rq 37 i)]) ?_ ?_
         ·have ho8:=h;have h:=hp34;refine .block ?_;obtain⟨k35,h⟩:=av h;refine .al (.mv rfl<|.mv rfl<|.cv rfl oa rfl<|.sh rfl rfl (Jd k35)<|.ar rfl rfl (tN (by decide))<|.cm rfl rfl rfl<|.nil) rfl ?_;by_cases c36:((Int.tmod (Int.fdiv v4 (2^(min (IntKind.u64.wrap v26).toNat IntKind.i64.bits))) 2)==1)=true
          ·replace h:=ab c36 h;refine .cl rfl c36 ?_;refine .sl 6 rfl rfl rfl ?_;obtain⟨v37,e38,h⟩:=bind_some h;obtain⟨v39,e40,h⟩:=bind_some h;obtain⟨k41,h⟩:=av h;refine .region (.mv rfl<|.mv rfl<|.mv rfl<|.ll rfl rfl aF (af e38).1 (af e38).2<|.i6 rfl aM<|.mv rfl<|.ll rfl rfl bk (af e40).1 (af e40).2<|.Cy (l:=iq (v39)) rfl aj rfl<|.Cx (e:=ak.rq) [v39] [(0,_,pZ v39,iq (v39))] dG rfl rfl rfl ⟨rfl,rfl,.agg _,rfl,trivial⟩ ⟨rfl,trivial⟩ rfl rfl<|.Cg (ys:=[v39]) rfl .sl rfl (.refl _) rfl dG rfl k41.1 k41.2 rfl<|.aq rfl<|.nil) rfl (fun _ _ hs=>⟨(v27++[v39]),(sj h),hs.sub (.of rfl) (.of rfl) rfl rfl⟩)
          ·replace h:=aa c36 h;refine .cq rfl c36 ?_;refine .skip (fun _ _ hs=>⟨v27,(sj h),hs.kz (fun r=>match r with|49=>2000006|r=>r) (.r rfl rfl<|.r rfl rfl<|.p rfl (.own (r:=2000004))<|.r rfl rfl<|.p rfl (.own (r:=49))<|.r rfl rfl<|trivial) (.p rfl (.cb (s:=4000004))<|.r rfl rfl<|.r rfl rfl<|trivial) rfl rfl rfl⟩)
         ·rintro _ rfl
          try dsimp only
          refine .region (.mv rfl<|.ar rfl rfl rfl<|.aq rfl<|.nil) rfl (fun _ _ hs=>⟨((IntKind.i64.wrap (v26+1)),v42),(sj h),hs.kz (fun r=>match r with|2000006=>49|r=>r) (.r rfl rfl<|.r rfl rfl<|.p rfl (.own (r:=2000004))<|.r rfl rfl<|.p rfl (.own (r:=2000006))<|.r rfl rfl<|trivial) (.p rfl (.cb (s:=4000004))<|.r rfl rfl<|.r rfl rfl<|trivial) rfl rfl rfl⟩)
        ·replace h:=aa c32 h;refine .cq rfl c32 ?_;refine .exit (fun a w hs=>⟨_,(sj h),fun e=>by subst e;have h:=ho7;exact aS (⟨v27,(sj h),hs.sub (.of rfl) (.of rfl) rfl rfl⟩)⟩)
       ·rintro _ rfl
        try dsimp only
        refine .fH 4 rfl rfl rfl ?_;refine .sl 6 rfl rfl rfl ?_;refine .sQ 6 (.own 2000006) rfl .sl ?_;obtain⟨k45,h⟩:=av h;refine .region (.mv rfl<|.mv rfl<|.Jw rfl cM rfl<|.Jo (s2:=3000053) rfl .sl rfl rfl rfl rfl rfl cM k45.1 k45.2 rfl rfl ⟨by decide,by decide,by decide,by decide,by decide,by decide,by decide⟩<|.aq rfl<|.nil) rfl (fun _ _ hs=>⟨(v14++[v44]),(sj h),hs.kz (fun r=>match r with|2000004=>53|4000004=>3000053|r=>r) (.r rfl rfl<|.r rfl rfl<|.p rfl (.own (r:=2000004))<|.r rfl rfl<|trivial) (.p rfl (.cb (s:=4000004))<|.r rfl rfl<|trivial) rfl rfl rfl⟩)
     ·rintro _ rfl
      try dsimp only
      refine .region (.mv rfl<|.ar rfl rfl rfl<|.aq rfl<|.nil) rfl (fun _ _ hs=>⟨((IntKind.i64.wrap (v13+1)),v46),(sj h),hs.sub (.of rfl) (.of rfl) rfl rfl⟩)
    ·replace h:=aa c19 h;refine .cq rfl c19 ?_;refine .exit (fun a w hs=>⟨_,(sj h),fun e=>by subst e;have h:=ho4;exact aS (⟨v14,(sj h),hs.sub (.of rfl) (.of rfl) rfl rfl⟩)⟩)
   ·rintro _ rfl
    try dsimp only
    refine .fH 4 rfl rfl rfl ?_;refine .sQ 4 (.own 2000004) rfl .sl ?_;refine .yL 4 rfl rfl rfl rfl rfl ?_;obtain⟨v49,e50,h⟩:=bind_some h;obtain⟨v51,e52,h⟩:=bind_some h;refine .al (.mv rfl<|.ag (AP e50) ⟨rfl,trivial⟩ trivial trivial<|.ag (wY e52) ⟨rfl,trivial⟩ trivial trivial<|.cm rfl rfl rfl<|.nil) rfl ?_;by_cases c53:(decide (v51<0))=true
    ·replace h:=ab c53 h;refine .cl rfl c53 ?_;refine .al (.aq rfl<|.nil) rfl ?_;refine .aO (Hi:=[]) (Ho:=[]) (b:=b) (fn:=Go.Proofs.Tryz.f136) (d:=D.bool false) (fun _ _ hb=>by exact⟨_,(sj h),fun e=>by subst e;have h:=ho2;cases h;have h:=ho1;cases h;exact hb⟩) rfl (.t1 (.tmp rfl)) (.refl _) trivial trivial
    ·replace h:=aa c53 h;refine .cq rfl c53 ?_;refine .skip (Ok.on ?_);refine .region (.mv rfl<|.ar rfl rfl rfl<|.aq rfl<|.nil) rfl (fun _ _ hs=>⟨(IntKind.i64.wrap (v4+1)),(sj h),hs.sub (.of rfl) trivial rfl rfl⟩)
  ·replace h:=aa c10 h;refine .cq rfl c10 ?_;refine .exit (fun a w hs=>⟨_,(sj h),fun e=>by subst e;have h:=ho2;exact aS (⟨(),(sj h),hs.sub trivial trivial rfl rfl⟩)⟩)
 ·rintro⟨⟩ rfl
  try dsimp only
  refine .al (.aq rfl<|.nil) rfl ?_;cases h;refine .aO (fun _ _ hb=>hb) rfl (.t1 (.tmp rfl)) (.refl _) trivial trivial
end
end Go.Am
namespace Go.Am
open Go.RowKit
def Ez(m lo:Nat):Value->Value
 |.slice A n c=>.slice (if c=lo then A else A.map (·.add (lo*m))) (n-lo) (c-lo)
 |v=>v
theorem BP(m:Nat)(v:Value):Ez m 0 v=v:=by
 cases v with
 |slice A n c=>cases A<;>simp[Ez,Addr.add]
 |_=>rfl
def D.mv(s k lo m:Nat):D where
 p:=fun ε _ _ v=>v.oneCell'=true/\∃(vs:Array Value) (u:Value),ε s=.agg vs/\vs[k]?=some u/\u.oneCell'=true/\v=Ez m lo u
 nm:=[s]
 sh:=.one
 mono:=fun h he _=>by rw[he _ (by simp)];exact h
 jQ:=fun h=>h.1
theorem tP.mv{ρ:Nat->Nat}{s k lo m:Nat}:tP ρ (.mv (ρ s) k lo m) (.mv s k lo m):=⟨fun _ _ _ _ h=>h,fun r' hr'=>by simp[D.mv]at hr'|-;rw[hr']⟩
theorem tP.KP{ρ:Nat->Nat}{s k m:Nat}:tP ρ (.mr (ρ s) k) (.mv s k 0 m):=⟨fun _ _ _ _ ⟨h1,vs,h2,h3⟩=>⟨h1,vs,_,h2,h3,h1,(BP m _).symm⟩,fun r' hr'=>by simp[D.mv]at hr'|-;rw[hr'];simp[D.mr]⟩
section
variable {P:Program} {os:List Oper} {c:Ctx} {T T':List (Nat×D)} {H H':List (Nat×Hp)} {sps:List Spec}
variable {ops:Array Oper} {dst:Option Nat} {ty:TypeId} {pos:String} {aft:Array Edge}
variable {α:Type} {e:ak α} {te tr:TypeId} {r s:Nat} {M X:List (List α)}
theorem an.JE{t:TypeId}{x y:Operand}{k m:Nat}{kd:IntKind}{z:Int}{xs:List α}(hx:ev T x=some (.mr s k))(hy:ev T y=some (.int kd z))(hh:ah H s=some (.store e tr M))(hM:M[k]?=some xs)(ht:sle P t=some m)(h0:0<=z)(h1:z<=xs.length)(hm:Nat.blt 0 e.n=true)
  (hr:an P ops c os (bw T dst (.mv s k z.toNat m)) H sps T' H'):
  an P ops c (⟨dst,.slice t x (some y) none none,ty,pos,aft,none⟩::os) T H (y7 [(x,.mr s k),(y,.int kd z)] s (.store e tr M) (.mv s k z.toNat m)::sps) T' H':=
 .ask rfl (two hx hy) hh (fun r' hr'=>.inl (by simpa [D.mv]using hr')) (fun ε w S a F ha hp=>by
  have h2:=ha (x,.mr s k) (by simp);have h3:a.eval y=.int kd z:=ha (y,.int kd z) (by simp);obtain⟨G,hrow⟩:=oJ hM hp h2;obtain⟨A,cap,hb,hA⟩:=xo (by simpa using hm) hrow;obtain⟨_,vs,e1,e2⟩:=h2;dsimp only at hb e2;obtain⟨e',he,hs⟩:=m2 ht;refine⟨Ez m z.toNat (a.eval x),?_,?_,vs,_,e1,e2,by rw[hb];rfl,rfl⟩
  ·simp only[execOp,Instr.sliceAt,run_underlying he,Sem.run_bind,Result.andThen_ok,Instr.slice,hb,Option.map_some,Option.map_none,Instr.sliceBounds,fP _ kd z xs.length _ h0 h1 h3,Sem.run_pure,hs];rfl
  ·rw[hb];rfl) hr
theorem an.J8{xt yt:TypeId}{x y:Operand}{k lo m:Nat}{xs:List α}(ht:isSlice P xt=true)(hx:ev T x=some (.mv s k lo m))(hy:ev T y=some .nil)(hh:ah H s=some (.store e tr M))(hM:M[k]?=some xs)(hm:Nat.blt 0 e.n=true)
  (hr:an P ops c os (bw T dst (.IX (xs=[]))) H sps T' H'):
  an P ops c (⟨dst,.binOp .eql xt x y yt,ty,pos,aft,none⟩::os) T H (y7 [(x,.mv s k lo m),(y,.nil)] s (.store e tr M) (.IX (xs=[]))::sps) T' H':=
 .ask rfl (two hx hy) hh (fun r' hr'=>by cases hr') (fun ε w S a F ha hp=>by
  obtain⟨h1,vs,u,e1,e2,hu1,e3⟩:=ha (x,.mv s k lo m) (by simp);have h2:a.eval y=.slice none 0 0:=ha (y,.nil) (by simp);obtain⟨G,hrow⟩:=oJ hM hp (v:=u) ⟨hu1,vs,e1,e2⟩;obtain⟨A,cap,hb,hA⟩:=xo (by simpa using hm) hrow;unfold isSlice at ht
  split at ht<;>try cases ht
  rename_i e' he;subst hb;refine⟨.bool A.isNone,?_,A.isNone,rfl,fun h=>?_⟩
  ·have hv:∃B n' c',a.eval x=.slice B n' c'/\B.isNone=A.isNone:=by
    dsimp only at e3;rw[e3];refine⟨_,_,_,rfl,?_⟩
    split<;>cases A<;>rfl
   obtain⟨B,n',c',hv,hB⟩:=hv;have hq:(Op.equal xt (.slice B n' c') (.slice none 0 0)).run P w=.ok A.isNone w:=by
    simp only[Op.equal,Op.maxDepth];rw[←hB];exact nz w 9999 B n' c' he
   simp only[execOp,hv,h2,vX,Sem.run_bind,Sem.run_pure,Result.andThen_ok];simp[binOp,hq]
  ·cases A with
   |some ad=>cases h
   |none=>
    have:=hA
    cases xs with
    |nil=>rfl
    |cons y ys=>exact absurd (hA (by simp)) (by simp)) hr
theorem Ik{ε:Env}{w:World}{S:cV}{F:cV}{v:Value}{k lo m:Nat}{xs:List α}(hp:(Hp.store e tr M).p ε w S (ε s) F)(hM:M[k]?=some xs)(hmn:m=e.n)(hm0:0<m)(hlo:lo<=xs.length)(hv:(D.mv s k lo m).p ε w S v):
  ∃A cap2 vs,v=.slice A (xs.length-lo) cap2/\(xs.length-lo=0\/∃b o,A=some ⟨b,o,none⟩/\∀(j:Nat) u,vs[j]?=some u->w.cell? ⟨b,o+j,none⟩=some u)/\(∀u∈vs,u.oneCell'=true)/\cp ε w S (flat e (xs.drop lo)) vs:=by
 subst hmn;obtain⟨h1,ws,u,e1,e2,hu1,e3⟩:=hv;obtain⟨G,hrow⟩:=oJ hM hp (v:=u) ⟨hu1,ws,e1,e2⟩;rcases hrow with⟨h0,hb,_⟩|⟨g,n,cap,cs,rest,hb,_,hg,hc1,hcap,_,hln,hcs⟩
 ·have h0':xs=[]:=by
   have:=bI e xs;rw[h0]at this;have:xs.length*e.n=0:=this.symm;exact List.eq_nil_of_length_eq_zero ((Nat.mul_eq_zero.1 this).resolve_right (by omega))
  subst h0';subst hb;have:lo=0:=by simpa using hlo
  subst this;refine⟨none,0,[],by rw[e3];simp[Ez],.inl rfl,fun u hu=>by(cases hu),?_⟩;rw[List.drop_nil];exact trivial
 ·have hn:n=xs.length:=by
   have:=bI e xs;rw[hln]at this;exact Nat.eq_of_mul_eq_mul_right hm0 this
  subst hn;have hcl:cs.length=xs.length*e.n:=by rw[aR hcs,bI]
  refine⟨_,_,cs.drop (lo*e.n),by rw[e3,hb];rfl,?_,fun u hu=>hc1 u (List.mem_of_mem_drop hu),by rw[←mV];exact ft _ hcs⟩;by_cases h0:xs.length-lo=0
  ·exact .inl h0
  ·have hle:xs.length*e.n<=cap*e.n:=by rw[←hcap,List.length_append];omega
   have hle2:xs.length<=cap:=Nat.le_of_mul_le_mul_right hle hm0;refine .inr ⟨g,0+lo*e.n,by rw[if_neg (by omega),Option.map_some,Addr.add_lit],fun j u hj=>?_⟩;rw[List.getElem?_drop]at hj;rw[iR hg,Nat.zero_add,List.getElem?_append_left (List.getElem?_eq_some_iff.1 hj).1];exact hj
theorem an.J_{t te:TypeId}{x y:Operand}{r1 r m bt k lo:Nat}{xs ys:List α}{z:List D}{dx dy:D}(hx:ev T x=some dx)(hdx:Le dx (.own r1))(hy:ev T y=some dy)(hdy:Le dy (.mv s k lo m))(hh:ah H r1=some (aY e te ys))(hk:ah H s=some (.store e tr M))(hM:M[k]?=some xs)(hlo:lo<=xs.length)(hm:nF P t=some (te,m,bt,z))(hmn:m=e.n)
  (hb:(ys.length+(xs.length-lo))*bt<=140737488355328)(hmax:ys.length+(xs.length-lo)<=9223372036854775807)(hf:ah H r=none)
  (hr:an P ops c os ((r,.own r)::T) ((r1,.dead)::(r,aY e te (ys++xs.drop lo))::H) sps T' H'):
  an P ops c (⟨some r,.call {callee:=.builtin .append,args:=#[x,y],argTypes:=#[t,t]},ty,pos,aft,none⟩::os) T H
   (apps x dx y dy r1 r [(r1,aY e te ys),(s,.store e tr M)] (aY e te (ys++xs.drop lo))::sps) T' H':=by
 refine .cons (sp:=apps x dx y dy r1 r [(r1,aY e te ys),(s,.store e tr M)] (aY e te (ys++xs.drop lo))) ?_ (bb.2 ⟨(ay hx).1,(ay hy).1⟩) ⟨hh,hk,trivial⟩ ⟨hf,trivial⟩ hr;intro hd T0 H0 hi du hnew a w ⟨ε,φ,hs⟩ Q K hK;rw[if_pos (bm rfl _)];obtain⟨hi1,hi2⟩:=bb.1 hi;obtain⟨_,_,_,_,_,_,_,_,_,_,hm0⟩:=iB hm;have h1:a.eval x=ε r1:=(hdx.1 _ _ _ _ (hs.ev hi1 (ay hx).2).1).1;obtain⟨A,cap2,vs,h2,hvA,hv1,hv⟩:=Ik (hs.h s _ du.2.1) hM hmn hm0 hlo (hdy.1 _ _ _ _ (hs.ev hi2 (ay hy).2).1);subst hmn;obtain⟨v',w',ε',φ',hrun,hS,ev',ho⟩:=hs.app (ty:=ty) hm (r:=r) (n2:=xs.length-lo) (hl:=dK e (ys++xs.drop lo)) du.1 hnew.1 (bI e ys) (by rw[bI,List.length_drop]) (dK e (xs.drop lo)) (nV e ys (xs.drop lo)).symm hvA hv1 hv hb hmax (cap2:=cap2);have hrun':(Builtin.append_ #[t,t] ty #[a.eval x,a.eval y]).run P w=.ok v' w':=by rw[h1,h2];exact hrun
 simp only[Oper.wp,lO a w w' hrun',Oper.upon];refine hK _ _ ⟨ε',φ',hS.put (d:=.own r) (dq hd) ⟨ev'.symm,ho⟩ (fun r' hr'=>?_)⟩;have:r'=r:=by simpa [D.own]using hr'
 subst this;show bq H0 [(r1,.dead),(r',aY e te (ys++xs.drop lo))] r'≠none;rw[fO];have hne:r'≠r1:=fun e=>by subst e;have:=du.1;have h0:=hnew.1;rw[h0]at this;cases this
 rw[aK _ _ hne,au];simp
theorem yc{ε:Env}{w:World}{S:cV}{F1:cV}{xs:List α}{vs:Array Value}{G:Nat->cV}{v:Value}{z:Nat}(hz:z<M.length)(h1:vs.size=M.length)(h2:∀k xs v,M[k]?=some xs->vs[k]?=some v->k≠z->(aY e tr xs).p ε w S v (G k))(h3:∀k k',k<M.length->k'<M.length->k≠k'->∀i,G k i->¬G k' i)(hx:(aY e tr xs).p ε w S v F1)(hd:∀k,k<M.length->∀i,G k i->¬F1 i):
  ((vs.set z v (by omega)).size=(M.set z xs).length)/\(∀k ys u,(M.set z xs)[k]?=some ys->(vs.set z v (by omega))[k]?=some u->(aY e tr ys).p ε w S u (dF G z F1 k))/\(∀k k',k<(M.set z xs).length->k'<(M.set z xs).length->k≠k'->∀i,dF G z F1 k i->¬dF G z F1 k' i)/\(∀k,k<(M.set z xs).length->∀i,dF G z F1 k i->(k<M.length/\G k i)\/F1 i):=by
 have gn:dF G z F1 z=F1:=au _ _ _;have gk:∀k,k≠z->dF G z F1 k=G k:=fun k hk=>aK _ _ hk;refine⟨by simp[h1],fun k ys u hy hu=>?_,fun k k' hk hk' hne i hi=>?_,fun k hk i hi=>?_⟩
 ·by_cases hk:k=z
  ·subst hk;rw[gn];rw[List.getElem?_set_self hz]at hy;injection hy with hy;subst hy;have:(vs.set k v (by omega))[k]?=some v:=by simp[h1,hz]
   rw[this]at hu;injection hu with hu;subst hu;exact hx
  ·rw[gk k hk];rw[List.getElem?_set_ne (Ne.symm hk)]at hy;have hu:vs[k]?=some u:=by rw[←hu];simp[Array.getElem?_set,Ne.symm hk]
   exact h2 k ys u hy hu hk
 ·rw[List.length_set]at hk hk';by_cases a1:k=z
  ·subst a1;rw[gn]at hi;rw[gk k' (Ne.symm hne)];exact fun h=>hd k' hk' i h hi
  ·rw[gk k a1]at hi;by_cases a2:k'=z
   ·subst a2;rw[gn];exact hd k hk i hi
   ·rw[gk k' a2];exact h3 k k' hk hk' hne i hi
 ·rw[List.length_set]at hk;by_cases a1:k=z
  ·subst a1;rw[gn]at hi;exact .inr hi
  ·rw[gk k a1]at hi;exact .inl ⟨hk,hi⟩
theorem xO{t:TypeId}{x y:Operand}{r1 s2 m:Nat}{z:Int}{xs:List α}{hp:Hp}{l:List D}(hrow:∀ε w S A,hp.p ε w S (ε r) A->(∃vs:Array Value,ε s=.agg vs/\vs.size=M.length)->lU 1 te l ε w S (ε r) A)(hll:l.length=M.length)(hl:∀d,l.set z.toNat d=(cO s M.length).set z.toNat d)(hz:z.toNat<M.length)(h:ev T x=some (.ref r (z.toNat*m)))(hy:ev T y=some (.own r1))(hh:ah H r=some hp)(hk:ah H s=some (.store e tr M))(h1:ah H r1=some (aY e tr xs))(hf:ah H s2=none)
  (hne:r≠s/\r≠r1/\s≠r1)(hm:m=1)(ht:lay P t=some none)
  (hr:an P ops c os (bw T dst .any) ((r,.cb e te s2 [])::(s2,.store e tr (M.set z.toNat xs))::(s,.dead)::(r1,.dead)::H) sps T' H'):
  an P ops c (⟨dst,.store t x y,ty,pos,aft,none⟩::os) T H (CO x (.ref r (z.toNat*m)) y (.own r1) [(r,hp),(s,.store e tr M),(r1,aY e tr xs)] [(r,.cb e te s2 []),(s2,.store e tr (M.set z.toNat xs)),(s,.dead),(r1,.dead)] [s2]::sps) T' H':=by
 subst hm;refine .cons (sp:=CO x (.ref r (z.toNat*1)) y (.own r1) [(r,hp),(s,.store e tr M),(r1,aY e tr xs)] [(r,.cb e te s2 []),(s2,.store e tr (M.set z.toNat xs)),(s,.dead),(r1,.dead)] [s2]) ?_ (bb.2 ⟨(ay h).1,(ay hy).1⟩) ⟨hh,hk,h1,trivial⟩ ⟨hf,trivial⟩ hr;intro hdst T0 H0 hi du hnew a w ⟨ε,φ,hs⟩ Q K hK;rw[if_pos (bm rfl _)];obtain⟨hi1,hi2⟩:=bb.1 hi;have hx:a.eval x=.pointer (some ⟨j6 (ε r),z.toNat*1,none⟩):=(hs.ev hi1 (ay h).2).1;obtain⟨hye,hyo⟩:=(hs.ev hi2 (ay hy).2).1;obtain⟨hr0,hs0,hr10,_⟩:=du;obtain⟨vs,G,e1,e2,_⟩:=hs.h s _ hs0;have hro:=hrow ε w _ _ (hs.h r _ hr0) ⟨vs,e1,e2⟩;obtain⟨w',hst,hS⟩:=hs.Eb (P:=P) (z:=z.toNat) (d:=D.lit (ε r1)) (v:=ε r1) hr0 hro (by rw[hll];exact hz) (hye▸hyo) rfl (fun q hq=>by
  rw[hl]at hq;obtain⟨d,hd,hq'⟩:=bZ.1 hq;rcases List.mem_or_eq_of_mem_set hd with hd|rfl
  ·rw[q9 (bZ.2 ⟨d,hd,hq'⟩),hs0];simp
  ·cases hq')
 have hrun:(execOp a.eval ⟨dst,.store t x y,ty,pos,aft,none⟩).run P w=.ok .skip w':=by
  have hcl:(a.eval y).cells=#[ε r1]:=by
   have:(ε r1).oneCell'=true:=hye▸hyo;rw[hye];exact uh this
  rw[Nat.mul_one]at hx;simp only[execOp,Instr.storeAt,hx,Instr.sureAddr,Sem.run_bind,Sem.run_pure,Result.andThen_ok,storeVar,(jL ht w).2,hcl];simp[hst]
 simp only[Oper.wp,hrun,Oper.upon];rw[hl]at hS;have u1:bq H0 [(r,.eP 1 te ((cO s M.length).set z.toNat (D.lit (ε r1))))] s=some (.store e tr M):=by rw[bJ,aK _ _ (Ne.symm hne.1)];exact hs0
 have u2:bq H0 [(r,.eP 1 te ((cO s M.length).set z.toNat (D.lit (ε r1))))] r1=some (aY e tr xs):=by rw[bJ,aK _ _ (Ne.symm hne.2.1)];exact hr10
 have u3:bq H0 [(r,.eP 1 te ((cO s M.length).set z.toNat (D.lit (ε r1))))] r=some (.eP 1 te ((cO s M.length).set z.toNat (D.lit (ε r1)))):=by rw[bJ,au]
 have u4:bq H0 [(r,.eP 1 te ((cO s M.length).set z.toNat (D.lit (ε r1))))] s2=none:=by
  rw[bJ,aK _ _ (fun e=>by rw[←e,hnew.1]at hr0;cases hr0)];exact hnew.1
 obtain⟨vs',G',f1,f2,f3,f4,f5⟩:=hS.h s _ u1;rw[e1]at f1;injection f1 with f1;subst f1;have hzv:z.toNat<vs.size:=by rw[f2];exact hz
 obtain⟨g1,g2,g3,g4⟩:=yc hz f2 (fun k xs v hx hv _=>f3 k xs v hx hv) f4 (hS.h r1 _ u2) (fun k hk i hi hi'=>hS.dj s r1 (by rw[u1];simp) (by rw[u2];simp) hne.2.2 i ((f5 i).2 ⟨k,hk,hi⟩) hi');have dC:lU 1 te (cE (vs.set z.toNat (ε r1) hzv).toList++([]:List (List α)).map (ai e)) ε w' (Am.al c (bq H0 [(r,.eP 1 te ((cO s M.length).set z.toNat (D.lit (ε r1))))]) φ) (ε r) (φ r):=by
  rw[List.map_nil,List.append_nil,uV];rcases(show lU 1 te _ ε w' _ (ε r) (φ r)from hS.h r _ u3)with⟨h0,_,_⟩|⟨g,n,cap,cs,rest,b1,b2,b3,b4,b5,b6,b7,b8⟩
  ·have:=congrArg List.length h0;rw[List.length_set,bX,List.length_nil]at this;omega
  ·refine .inr ⟨g,n,cap,cs,rest,b1,b2,b3,b4,b5,b6,?_,?_⟩
   ·rw[←b7,List.length_set,List.length_set,bX,ni,Array.length_toList,f2]
   ·rw[List.length_set,bX]at b7;have hcs:cs=vs.toList.set z.toNat (ε r1):=by
     have hl1:=aR b8;rw[List.length_set,bX]at hl1;apply List.ext_getElem
     ·rw[hl1,List.length_set];simpa using f2.symm
     ·intro k k1 k2;have hkl:k<M.length:=by omega
      by_cases hkz:k=z.toNat
      ·subst hkz;rw[List.getElem_set_self];obtain⟨v,hv,hp⟩:=gK b8 (show((cO s M.length).set z.toNat (D.lit (ε r1)))[z.toNat]?=some (D.lit (ε r1))by rw[List.getElem?_set_self (by rw[bX];exact hz)]);rw[List.getElem?_eq_getElem k1]at hv;injection hv with hv;rw[hv];exact hp
      ·rw[List.getElem_set_ne (Ne.symm hkz)];obtain⟨v,hv,_,vs',e1',e2'⟩:=gK b8 (show((cO s M.length).set z.toNat (D.lit (ε r1)))[k]?=some (D.mr s k)by rw[List.getElem?_set_ne (Ne.symm hkz),tp hkl]);rw[e1]at e1';injection e1' with e1';subst e1';rw[List.getElem?_eq_getElem k1]at hv;injection hv with hv;rw[hv];obtain⟨h3,h4⟩:=Array.getElem?_eq_some_iff.1 e2';simp[←h4]
    rw[hcs,←uV vs (ε r1) z.toNat hzv];exact ki.2 (by simp)
 have hG:=hS.wQ (r:=r) (te:=te) (X:=[]) (s2:=s2) (e:=e) (tr:=tr) (M:=M.set z.toNat xs) [s,r1] (fun q hq=>by
   simp only[List.mem_cons,List.not_mem_nil,or_false]at hq;rcases hq with rfl|rfl
   ·rw[u1];simp
   ·rw[u2];simp) u4 (by rw[u3];simp) (by simp[hne.1,hne.2.1]) (vs.set z.toNat (ε r1) hzv) _ g1 g2 g3 (fun k hk i hi=>(g4 k hk i hi).elim (fun h=>⟨s,by simp,(f5 i).2 ⟨k,h.1,h.2⟩⟩) (fun h=>⟨r1,by simp,h⟩)) dC
 rw[oF (by simp[ah])]at hG;obtain⟨ε2,φ2,hG⟩:=hG;exact hK _ _ ⟨ε2,φ2,hG.put (d:=.any) (dq hdst) trivial (fun _ h=>by cases h)⟩
theorem an.Jf{t:TypeId}{x y:Operand}{r1 s2 m:Nat}{z:Int}{xs:List α}(hz:z.toNat<M.length)(h:ev T x=some (.ref r (z.toNat*m)))(hy:ev T y=some (.own r1))(hh:ah H r=some (.cb e te s []))(hk:ah H s=some (.store e tr M))(h1:ah H r1=some (aY e tr xs))(hf:ah H s2=none)
  (hne:r≠s/\r≠r1/\s≠r1)(hm:m=1)(ht:lay P t=some none)
  (hr:an P ops c os (bw T dst .any) ((r,.cb e te s2 [])::(s2,.store e tr (M.set z.toNat xs))::(s,.dead)::(r1,.dead)::H) sps T' H'):
  an P ops c (⟨dst,.store t x y,ty,pos,aft,none⟩::os) T H (CO x (.ref r (z.toNat*m)) y (.own r1) [(r,.cb e te s []),(s,.store e tr M),(r1,aY e tr xs)] [(r,.cb e te s2 []),(s2,.store e tr (M.set z.toNat xs)),(s,.dead),(r1,.dead)] [s2]::sps) T' H':=
 xO (l:=cO s M.length) (fun ε w S A hA ⟨vs,e1,e2⟩=>by
  obtain⟨vs',e1',h⟩:=hA;rw[e1]at e1';injection e1' with e1';subst e1';rw[List.map_nil,List.append_nil,e2]at h;exact h) (bX _ _) (fun _=>rfl) hz h hy hh hk h1 hf hne hm ht hr
end
end Go.Am
namespace Go.Am
open Go.RowKit
section
variable {P:Program} {os:List Oper} {c:Ctx} {T T':List (Nat×D)} {H H':List (Nat×Hp)} {sps:List Spec}
variable {ops:Array Oper} {dst:Option Nat} {ty:TypeId} {pos:String} {aft:Array Edge}
variable {α:Type} {e:ak α} {te tr:TypeId} {r s:Nat} {M X:List (List α)}
theorem cP.split{T0:Nat->Option D}{H0:Nat->Option Hp}{a:Act}{w:World}{ε:Env}{φ:Nat->cV}(hs:cP c T0 H0 a w ε φ){z:Nat}{xs:List α}(hr:H0 r=some (.cb e te s []))(hk:H0 s=some (.store e tr M))(hM:M[z]?=some xs){s2 r1:Nat}(hs2:H0 s2=none)(hr1:H0 r1=none)(hne:s2≠r1)(hrs:r≠s):
  ∃ε' φ',cP c T0 (bq H0 [(r,.eP 1 te ((cO s2 M.length).set z .any)),(s2,.store e tr (M.set z [])),(s,.dead),(r1,aY e tr xs)]) a w ε' φ'/\(∃vs:Array Value,ε s=.agg vs/\vs[z]?=some (ε' r1)):=by
 have hz:=(List.getElem?_eq_some_iff.1 hM).1;obtain⟨vs,G,e1,e2,e3,e4,e5⟩:=hs.h s _ hk;obtain⟨vs0,e1',hrow⟩:=hs.h r _ hr;rw[e1]at e1';injection e1' with e1';subst e1';rw[List.map_nil,List.append_nil,e2]at hrow;have hzv:z<vs.size:=by omega
 have n1:r≠s2:=fun e=>by rw[e,hs2]at hr;cases hr
 have n2:r≠r1:=fun e=>by rw[e,hr1]at hr;cases hr
 have n3:s≠s2:=fun e=>by rw[e,hs2]at hk;cases hk
 have n4:s≠r1:=fun e=>by rw[e,hr1]at hk;cases hk
 let L:List (Nat×Hp):=[(r,.eP 1 te ((cO s2 M.length).set z .any)),(s2,.store e tr (M.set z [])),(s,.dead),(r1,aY e tr xs)]
 have beq_ne:∀{q p:Nat},q≠p->Nat.beq q p=false:=fun{q p} h=>by
  cases hb:Nat.beq q p with
  |false=>rfl
  |true=>exact absurd (Nat.eq_of_beq_eq_true hb) h
 have gL:∀q,ah L q=if q=r then some (.eP 1 te ((cO s2 M.length).set z .any))else if q=s2 then some (.store e tr (M.set z []))else if q=s then some .dead else if q=r1 then some (aY e tr xs)else none:=by
  intro q;have step:∀(p:Nat) (x:Hp) (K:List (Nat×Hp)),ah ((p,x)::K) q=if q=p then some x else ah K q:=by
   intro p x K;show(match Nat.beq q p with|true=>some x|false=>ah K q)=_;by_cases h:q=p
   ·subst h;simp
   ·rw[beq_ne h,if_neg h]
  show ah [(r,_),(s2,_),(s,_),(r1,_)] q=_;rw[step,step,step,step]
  rfl
 let ε':Env:=dF (dF ε s2 (.agg (vs.set z (.slice none 0 0) hzv))) r1 vs[z]
 have v1:ε' r1=vs[z]:=au _ _ _;have v2:ε' s2=.agg (vs.set z (.slice none 0 0) hzv):=by show dF _ _ _ _=_;rw[aK _ _ hne,au]
 have v3:∀q,H0 q≠none->ε' q=ε q:=fun q hq=>by
  show dF _ _ _ _=_;rw[aK _ _ (show q≠r1 from fun e=>hq (by rw[e];exact hr1)),aK _ _ (show q≠s2 from fun e=>hq (by rw[e];exact hs2))]
 let φ':Nat->cV:=fun q=>if q=s2 then(fun i=>∃j,j<M.length/\j≠z/\G j i)else if q=s then noBlocks else if q=r1 then G z else φ q
 have p1:φ' s2=fun i=>∃j,j<M.length/\j≠z/\G j i:=by simp[φ']
 have p2:φ' s=noBlocks:=by simp[φ',n3]
 have p3:φ' r1=G z:=by simp[φ',Ne.symm hne,Ne.symm n4]
 have p4:∀q,q≠s2->q≠s->q≠r1->φ' q=φ q:=fun q h1 h2 h3=>by simp[φ',h1,h2,h3]
 have p5:φ' r=φ r:=p4 r n1 hrs n2;have cls:∀q,ah L q≠none->q=r\/q=s2\/q=s\/q=r1:=fun q h=>by
  rw[gL]at h;by_cases h1:q=r
  ·exact .inl h1
  ·by_cases h2:q=s2
   ·exact .inr (.inl h2)
   ·by_cases h3:q=s
    ·exact .inr (.inr (.inl h3))
    ·by_cases h4:q=r1
     ·exact .inr (.inr (.inr h4))
     ·simp[h1,h2,h3,h4]at h
 have lr:ah L r≠none:=by rw[gL];simp
 have ls:ah L s≠none:=by rw[gL];simp[Ne.symm hrs,n3]
 have ls2:ah L s2≠none:=by rw[gL];simp[Ne.symm n1]
 have hrG:∀j,j<M.length->∀i,G j i->¬φ r i:=fun j hj i hg hf=>hs.dj s r (by rw[hk];simp) (by rw[hr];simp) (Ne.symm hrs) i ((e5 i).2 ⟨j,hj,hg⟩) hf;have hg:=hs.tc (L:=L) (ε':=ε') (φ':=φ') v3 (fun q hq=>?_) (fun q k hq hk'=>?_) (fun q q' hq hq' hqq k hk1=>?_) (fun q x hq=>?_) (fun q x hq q' hq'=>?_)
 ·refine⟨ε',φ',hg.1,vs,e1,?_⟩;rw[v1];simp[hzv]
 ·rw[gL]at hq;refine p4 q (fun e=>?_) (fun e=>?_) (fun e=>?_)
  ·rw[e]at hq;simp[Ne.symm n1]at hq
  ·rw[e]at hq;simp[Ne.symm hrs,n3]at hq
  ·rw[e]at hq;simp[Ne.symm n2,Ne.symm hne,Ne.symm n4]at hq
 ·rcases cls q hq with rfl|rfl|rfl|rfl
  ·rw[p5]at hk';exact⟨_,by rw[hr];simp,lr,hk'⟩
  ·rw[p1]at hk';obtain⟨j,hj,_,hg⟩:=hk';exact⟨s,by rw[hk];simp,ls,(e5 k).2 ⟨j,hj,hg⟩⟩
  ·rw[p2]at hk';exact hk'.elim
  ·rw[p3]at hk';exact⟨s,by rw[hk];simp,ls,(e5 k).2 ⟨z,hz,hk'⟩⟩
 ·rcases cls q hq with rfl|rfl|rfl|rfl
  ·rw[p5]at hk1;rcases cls q' hq' with rfl|rfl|rfl|rfl
   ·exact absurd rfl hqq
   ·rw[p1];rintro⟨j,hj,_,hg⟩;exact hrG j hj k hg hk1
   ·rw[p2];exact fun h=>h
   ·rw[p3];exact fun h=>hrG z hz k h hk1
  ·rw[p1]at hk1;obtain⟨j,hj,hjz,hg⟩:=hk1;rcases cls q' hq' with rfl|rfl|rfl|rfl
   ·rw[p5];exact hrG j hj k hg
   ·exact absurd rfl hqq
   ·rw[p2];exact fun h=>h
   ·rw[p3];exact e4 j z hj hz hjz k hg
  ·rw[p2]at hk1;exact hk1.elim
  ·rw[p3]at hk1;rcases cls q' hq' with rfl|rfl|rfl|rfl
   ·rw[p5];exact hrG z hz k hk1
   ·rw[p1];rintro⟨j,hj,hjz,hg⟩;exact e4 j z hj hz hjz k hg hk1
   ·rw[p2];exact fun h=>h
   ·exact absurd rfl hqq
 ·have hS:∀k,Am.al c H0 φ k->Am.al c (bq H0 L) φ' k:=fun k hk'=>by
   refine⟨hk'.1,fun q' hq' hf=>?_⟩;by_cases h1:q'=s2
   ·rw[h1,p1]at hf;obtain⟨j,hj,_,hg⟩:=hf;exact hk'.2 s (by rw[hk];simp) ((e5 k).2 ⟨j,hj,hg⟩)
   ·by_cases h2:q'=s
    ·rw[h2,p2]at hf;exact hf
    ·by_cases h3:q'=r1
     ·rw[h3,p3]at hf;exact hk'.2 s (by rw[hk];simp) ((e5 k).2 ⟨z,hz,hf⟩)
     ·rw[p4 q' h1 h2 h3]at hf;by_cases h4:q'=r
      ·rw[h4]at hf;exact hk'.2 r (by rw[hr];simp) hf
      ·refine hk'.2 q' (fun h0=>hq' ?_) hf;simp only[bq];rw[gL,if_neg h4,if_neg h1,if_neg h2,if_neg h3];exact h0
  have hS':∀k,Am.al c H0 φ k->k<w.heap.size->Am.al c (bq H0 L) φ' k/\w.heap[k]?=w.heap[k]?:=fun k hk' _=>⟨hS k hk',rfl⟩;rw[gL]at hq;by_cases h1:q=r
  ·subst h1;rw[if_pos rfl]at hq;injection hq with hq;subst hq;rw[p5,v3 q (by rw[hr];simp)];show lU 1 te ((cO s2 M.length).set z .any) ε' w _ _ _;rcases hrow with⟨h0,_,_⟩|⟨g,n,cap,cs,rest,b1,b2,b3,b4,b5,b6,b7,b8⟩
   ·have:=congrArg List.length h0;rw[bX,List.length_nil]at this;omega
   ·refine .inr ⟨g,n,cap,cs,rest,b1,b2,b3,b4,b5,b6,by rw[←b7,List.length_set,bX,bX],?_⟩;have hcs:=l7 e1 (by rw[e2];exact b8);subst hcs;have hm:=p7 (w:=w) (S:=Am.al c (bq H0 L) φ') v2 (fun v hv=>by
     rw[Array.toList_set]at hv;rcases List.mem_or_eq_of_mem_set hv with h|rfl
     ·exact b4 v h
     ·rfl)
    rw[Array.size_set,e2,Array.toList_set]at hm;have:=ua (d:=D.any) (v:=vs[z]) (ε:=ε') (w:=w) (S:=Am.al c (bq H0 L) φ') trivial z hm;rw[List.set_set]at this;have e6:vs.toList.set z vs[z]=vs.toList:=by
     have:vs[z]=vs.toList[z]'(by simpa using hzv):=by simp
     rw[this,List.set_getElem_self]
    rw[e6]at this;exact this
  ·rw[if_neg h1]at hq;by_cases h2:q=s2
   ·subst h2;rw[if_pos rfl]at hq;injection hq with hq;subst hq;rw[p1,v2];have gz:dF G z noBlocks z=noBlocks:=au _ _ _;have gn:∀k,k≠z->dF G z noBlocks k=G k:=fun k hk=>aK _ _ hk;obtain⟨g1,g2,g3,g4⟩:=yc (e:=e) (tr:=tr) (M:=M) (ε:=ε') (w:=w) (S:=Am.al c (bq H0 L) φ') (F1:=noBlocks) (xs:=[]) (vs:=vs) (G:=G) (v:=.slice none 0 0) hz e2 (fun k xs v hx hv _=>(aY e tr xs).mono (e3 k xs v hx hv) (fun q' hq'=>by cases hq') hS' (fun _ _=>rfl)) e4 (.inl ⟨rfl,rfl,rfl⟩) (fun _ _ _ _ h=>h);refine⟨_,dF G z noBlocks,rfl,g1,g2,g3,fun i=>⟨fun⟨j,hj,hjz,hg⟩=>⟨j,by rw[List.length_set];exact hj,by rw[gn j hjz];exact hg⟩,fun⟨j,hj,hg⟩=>?_⟩⟩;rw[List.length_set]at hj;by_cases hjz:j=z
    ·subst hjz;rw[gz]at hg;exact hg.elim
    ·rw[gn j hjz]at hg;exact⟨j,hj,hjz,hg⟩
   ·rw[if_neg h2]at hq;by_cases h3:q=s
    ·subst h3;rw[if_pos rfl]at hq;injection hq with hq;subst hq;rw[p2];rfl
    ·rw[if_neg h3]at hq;by_cases h4:q=r1
     ·subst h4;rw[if_pos rfl]at hq;injection hq with hq;subst hq;rw[p3,v1];exact(aY e tr xs).mono (e3 z xs vs[z] hM (by simp[hzv])) (fun q' hq'=>by cases hq') hS' (fun _ _=>rfl)
     ·rw[if_neg h4]at hq;cases hq
 ·rw[gL]at hq;by_cases h1:q=r
  ·rw[if_pos h1]at hq;injection hq with hq;subst hq
   right
   have hq2:q'∈bV ((cO s2 M.length).set z .any):=hq';obtain⟨d,hd,hq3⟩:=bZ.1 hq2;rcases List.mem_or_eq_of_mem_set hd with hd|rfl
   ·rw[q9 (bZ.2 ⟨d,hd,hq3⟩)];exact ls2
   ·cases hq3
  ·rw[if_neg h1]at hq;by_cases h2:q=s2
   ·rw[if_pos h2]at hq;injection hq with hq;subst hq;cases hq'
   ·rw[if_neg h2]at hq;by_cases h3:q=s
    ·rw[if_pos h3]at hq;injection hq with hq;subst hq;cases hq'
    ·rw[if_neg h3]at hq;by_cases h4:q=r1
     ·rw[if_pos h4]at hq;injection hq with hq;subst hq;cases hq'
     ·rw[if_neg h4]at hq;cases hq
theorem an.JU{t tx:TypeId}{x y:Operand}{d s2 r1 m bt k:Nat}{xs:List α}{zl:List D}{n:Int}(a0:α)(hx:ev T x=some (.mr s k))(hy:ev T y=some (.int .i64 n))(hh:ah H r=some (.cb e te s []))(hk:ah H s=some (.store e tr M))(hM:M[k]?=some xs)(hm:nF P t=some (tr,m,bt,zl))(hu:P.underlying tx=some (.int .i64))(hmn:m=e.n)(hz:rY zl (e.c a0))
  (h0:0<=n)(hb:(xs.length+n.toNat)*bt<=140737488355328)(hmax:xs.length+n.toNat<=9223372036854775807)(hf:ah H d=none)(hf2:ah H s2=none)(hf1:ah H r1=none)(hne:s2≠r1/\r≠s/\d≠s2/\d≠r1)
  (hr:an P ops c os ((d,.own d)::T) ((r,.eP 1 te ((cO s2 M.length).set k .any))::(s2,.store e tr (M.set k []))::(s,.dead)::(r1,.dead)::(d,aY e tr (xs++List.replicate n.toNat a0))::H) sps T' H'):
  an P ops c (⟨some d,.call {callee:=.builtin .append,args:=#[x,y],argTypes:=#[t,tx]},ty,pos,aft,none⟩::os) T H
   ({ins:=eQ x (.mr s k)++eQ y (.int .i64 n),du:=[(r,.cb e te s []),(s,.store e tr M)],out:=.own d,dC:=[(r,.eP 1 te ((cO s2 M.length).set k .any)),(s2,.store e tr (M.set k [])),(s,.dead),(r1,.dead),(d,aY e tr (xs++List.replicate n.toNat a0))],news:=[d,s2,r1]}::sps) T' H':=by
 subst hmn;refine .cons (sp:={ins:=eQ x (.mr s k)++eQ y (.int .i64 n),du:=[(r,.cb e te s []),(s,.store e tr M)],out:=.own d,dC:=[(r,.eP 1 te ((cO s2 M.length).set k .any)),(s2,.store e tr (M.set k [])),(s,.dead),(r1,.dead),(d,aY e tr (xs++List.replicate n.toNat a0))],news:=[d,s2,r1]}) ?_ (bb.2 ⟨(ay hx).1,(ay hy).1⟩) ⟨hh,hk,trivial⟩ ⟨hf,hf2,hf1,trivial⟩ hr;intro hd T0 H0 hi du hnew a w ⟨ε,φ,hs⟩ Q K hK;rw[if_pos (bm rfl _)];obtain⟨hi1,hi2⟩:=bb.1 hi;obtain⟨hnd,hn2,hn1,_⟩:=hnew;obtain⟨_,vs,ev1,ev2⟩:=(hs.ev hi1 (ay hx).2).1;have h2:a.eval y=.int .i64 n:=(hs.ev hi2 (ay hy).2).1;obtain⟨j,rfl⟩:∃j:Nat,n=j:=⟨n.toNat,by omega⟩;rw[Int.toNat_natCast]at hb hmax;simp only[Int.toNat_natCast]at hK;obtain⟨ε1,φ1,hS,vs',f1,f2⟩:=hs.split (te:=te) du.1 du.2.1 hM hn2 hn1 hne.1 hne.2.1;rw[ev1]at f1;injection f1 with f1;subst f1;have h1:a.eval x=ε1 r1:=by rw[ev2]at f2;injection f2
 have un:∀{q p:Nat},q≠p->Nat.beq q p=false:=fun{q p} h=>by
  cases hb:Nat.beq q p with
  |false=>rfl
  |true=>exact absurd (Nat.eq_of_beq_eq_true hb) h
 have dr:d≠r:=fun e=>by subst e;have:=du.1;rw[hnd]at this;cases this
 have ds:d≠s:=fun e=>by subst e;have:=du.2.1;rw[hnd]at this;cases this
 have r1r:r1≠r:=fun e=>by subst e;have:=du.1;rw[hn1]at this;cases this
 have r1s:r1≠s:=fun e=>by subst e;have:=du.2.1;rw[hn1]at this;cases this
 have g1:bq H0 [(r,Hp.eP 1 te ((cO s2 M.length).set k .any)),(s2,.store e tr (M.set k [])),(s,.dead),(r1,aY e tr xs)] r1=some (aY e tr xs):=by
  simp only[bq,ah,un r1r,un (Ne.symm hne.1),un r1s,Nat.beq_refl]
 have gd:bq H0 [(r,Hp.eP 1 te ((cO s2 M.length).set k .any)),(s2,.store e tr (M.set k [])),(s,.dead),(r1,aY e tr xs)] d=none:=by
  simp only[bq,ah,un dr,un hne.2.2.1,un ds,un hne.2.2.2];exact hnd
 obtain⟨v',w',ε',φ',hrun,hS2,ev',ho⟩:=hS.Jn (P:=P) (ty:=ty) (r:=d) (k:=j) a0 g1 hm hu hz hb hmax gd;have hrun':(Builtin.append_ #[t,tx] ty #[a.eval x,a.eval y]).run P w=.ok v' w':=by rw[h1,h2];exact hrun
 simp only[Oper.wp,rS a w w' hrun',Oper.upon];have eH:bq (bq H0 [(r,Hp.eP 1 te ((cO s2 M.length).set k .any)),(s2,.store e tr (M.set k [])),(s,.dead),(r1,aY e tr xs)]) [(r1,.dead),(d,aY e tr (xs++List.replicate j a0))]=bq H0 [(r,Hp.eP 1 te ((cO s2 M.length).set k .any)),(s2,.store e tr (M.set k [])),(s,.dead),(r1,.dead),(d,aY e tr (xs++List.replicate j a0))]:=by
  funext q
  simp only[bq,ah]
  cases h5:Nat.beq q r1 with
  |true=>
   have e5:=Nat.eq_of_beq_eq_true h5;subst e5;simp only[un r1r,un (Ne.symm hne.1),un r1s]
  |false=>
   cases h6:Nat.beq q d with
   |true=>
    have e6:=Nat.eq_of_beq_eq_true h6;subst e6;simp only[un dr,un hne.2.2.1,un ds]
   |false=>cases Nat.beq q r<;>cases Nat.beq q s2<;>cases Nat.beq q s<;>rfl
 rw[eH]at hS2;refine hK _ _ ⟨ε',φ',hS2.put (d:=.own d) (dq hd) ⟨ev'.symm,ho⟩ (fun r' hr'=>?_)⟩;have:r'=d:=by simpa [D.own]using hr'
 subst this;simp only[bq,ah,un dr,un hne.2.2.1,un ds,un hne.2.2.2,Nat.beq_refl];simp
theorem an.JF{t:TypeId}{x y:Operand}{r1 s2 m:Nat}{z:Int}{xs:List α}(hz:z.toNat<M.length)(h:ev T x=some (.ref r (z.toNat*m)))(hy:ev T y=some (.own r1))(hh:ah H r=some (.eP 1 te ((cO s M.length).set z.toNat .any)))(hk:ah H s=some (.store e tr (M.set z.toNat [])))(h1:ah H r1=some (aY e tr xs))(hf:ah H s2=none)
  (hne:r≠s/\r≠r1/\s≠r1)(hm:m=1)(ht:lay P t=some none)
  (hr:an P ops c os (bw T dst .any) ((r,.cb e te s2 [])::(s2,.store e tr (M.set z.toNat xs))::(s,.dead)::(r1,.dead)::H) sps T' H'):
  an P ops c (⟨dst,.store t x y,ty,pos,aft,none⟩::os) T H (CO x (.ref r (z.toNat*m)) y (.own r1) [(r,.eP 1 te ((cO s M.length).set z.toNat .any)),(s,.store e tr (M.set z.toNat [])),(r1,aY e tr xs)] [(r,.cb e te s2 []),(s2,.store e tr ((M.set z.toNat []).set z.toNat xs)),(s,.dead),(r1,.dead)] [s2]::sps) T' H':=by
 have hl:(M.set z.toNat []).length=M.length:=List.length_set ..;refine xO (M:=M.set z.toNat []) (l:=(cO s M.length).set z.toNat .any) (fun ε w S A hA _=>hA) (by rw[List.length_set,bX,hl]) (fun d=>by rw[hl,List.set_set]) (by rw[hl];exact hz) h hy hh hk h1 hf hne hm ht ?_;rw[List.set_set];exact hr
theorem Ok.It{x:Code}{Q:Exit->Act->World->Prop}{k:Nat}{xs:List α}(t:Nat)(ht:aW T t=some (.mr s k))(hk:ah H s=some (.store e tr M))(hM:M[k]?=some xs)(hm:Nat.blt 0 e.n=true)
  (h:Ok P c ((t,ai e xs)::T) ((s,.dead)::H) x Q):Ok P c T H x Q:=by
 intro a w ⟨ε,φ,hs⟩;have hm0:0<e.n:=by simpa using hm
 obtain⟨hv1,us,f0,fk⟩:=hs.t t _ ht;obtain⟨vs,G,e1,e2,e3,e4,e5⟩:=hs.h s _ hk;rw[e1]at f0;injection f0 with f0;subst f0;have hkl:=(List.getElem?_eq_some_iff.1 hM).1
 let φ':Nat->cV:=dF φ s noBlocks
 have f2:φ' s=noBlocks:=au _ _ _;have f3:∀q,q≠s->φ' q=φ q:=fun q h1=>aK _ _ h1;have hL:∀q,ah [(s,Hp.dead)] q=if q=s then some .dead else none:=by
  intro q;simp only[ah]
  cases h1:Nat.beq q s with
  |true=>rw[if_pos (Nat.eq_of_beq_eq_true h1)]
  |false=>rw[if_neg (fun e=>by subst e;simp at h1)]
 have cls:∀q,ah [(s,Hp.dead)] q≠none->q=s:=by
  intro q h;rw[hL]at h;by_cases h1:q=s
  ·exact h1
  ·simp[h1]at h
 have hR:=hs.tc (L:=[(s,.dead)]) (ε':=ε) (φ':=φ') (fun _ _=>rfl) (fun q hq=>by
   rw[hL]at hq;by_cases h1:q=s
   ·simp[h1]at hq
   ·exact f3 q h1) (fun q k hq hk=>by rw[cls q hq,f2]at hk;exact hk.elim) (fun q q' hq hq' _ k hk=>by rw[cls q hq,f2]at hk;exact hk.elim)
   (fun q y hq=>by
    have h1:q=s:=cls q (by rw[hq];simp);subst h1;rw[hL,if_pos rfl]at hq;injection hq with hq;subst hq;exact f2)
   (fun q y hq q' hq'=>by
    have h1:q=s:=cls q (by rw[hq];simp);subst h1;rw[hL,if_pos rfl]at hq;injection hq with hq;subst hq;cases hq')
 have hSr:∀k,φ s k->Am.al c (bq (ah H) [(s,.dead)]) φ' k:=by
  intro k hk';have hq0:ah H s≠none:=by rw[hk];simp
  have hlo:=hs.lo s hq0 k hk';refine⟨hlo.1.elim (fun h=>.inr (.inl h)) (fun h=>.inr (.inr h)),fun q' hq' hf=>?_⟩;by_cases h1:q'=s
  ·rw[h1,f2]at hf;exact hf
  ·rw[f3 q' h1]at hf;have h0:ah H q'≠none:=by
    intro h0;apply hq';simp only[bq];rw[hL,if_neg h1];exact h0
   exact hs.dj s q' hq0 h0 (Ne.symm h1) k hk' hf
 refine h a w ⟨ε,φ',uk (by
  have:=hR.1;rw[bC]at this;exact this) ?_ rfl⟩
 have hreg:∀k,Am.al c (ah H) φ k->Am.al c (ah ([(s,Hp.dead)]++H)) φ' k:=by rw[←bC];exact hR.2
 rw[bC]at hSr;exact mK (e3 k xs _ hM fk) hm0 hreg (fun i hi=>hSr i ((e5 i).2 ⟨k,hkl,hi⟩))
end
end Go.Am
namespace Go.Am
open Go.RowKit
set_option maxRecDepth 100000
def n7(M:List (List Rat))(k lo:Nat):Option (List Rat):=M[k]?.bind fun xs=>cj (lo<=xs.length/\xs.length<=1000000000) (some (xs.drop lo))
theorem xL{M:List (List Rat)}{k lo:Nat}{r:List Rat}(h:n7 M k lo=some r):bf PP 204 [(400,Hp.store ak.rat 28 M)] [D.mv 400 k lo 3] [(400,Hp.store ak.rat 28 M),(7,aY ak.rat 28 r)] (D.own 7):=by
 obtain⟨xs,hM,h⟩:=bind_some h;obtain⟨hl,h⟩:=av h;injection h with h;subst h;refine .of Go.Proofs.Tryz.func204 rfl (by kernel_rfl) rfl rfl rfl rfl rfl rfl (fun A w0 L b=>?_);show Ok PP _ [(0,D.mv 400 k lo 3),(1000400,D.pinned 400 (b 400))] [(400,Hp.store ak.rat 28 M)] _ _;refine .al (.aq rfl<|.nil) rfl (.sq ?_);refine .al (.mv rfl<|.J8 bP rfl rfl rfl hM rfl<|.nil) rfl ?_;refine .cQ rfl (fun h=>?_) (.skip (Ok.on ?_))
 ·subst h;refine .al (.aq rfl<|.nil) rfl ?_;refine .jF ak.rat 2 7 28 rfl rfl ?_;refine .aO (fun _ _ hb=>hb) rfl (.cons (.tmp rfl) .nil) (.refl _) (.of rfl) ⟨⟨_,rfl,.refl _⟩,⟨_,by rw[List.drop_nil];rfl,.refl _⟩,trivial⟩
 ·refine .al (.J6 ak.rat eX rfl rfl<|.mv rfl<|.J_ (xs:=xs) (lo:=lo) (s:=400) rfl (.refl _) rfl (.refl _) rfl rfl hM hl.1 eX rfl (by simp only[List.length_nil];omega) (by simp only[List.length_nil];omega) rfl<|.aq rfl<|.nil) rfl ?_;refine .aO (fun _ _ hb=>hb) rfl (.cons (.tmp rfl) .nil) (.refl _) (.of rfl) (.of rfl)
end Go.Am
namespace Go.Am
open Go.RowKit
set_option maxRecDepth 100000
noncomputable section
def ov(v3:Int)(v14:Int)(v15:List (List Rat))(v24:Int):Option (St Int Int):=(if(decide (v24<v3))=true then(ix v15 v24).bind fun v30=>(ix v30 v14).bind fun v32=>(cW v32).bind fun v34=>(if(v34==0)=true then some (St.next (IntKind.i64.wrap (v24+1)))else some (St.done v24))else some (St.done v24))
def lH(v3:Int)(v14:Int)(v60:Int)(v77:Rat)(v79:Int)(v80:List (List Rat)):Option (St (Int×(List (List Rat))) (List (List Rat))):=(if(decide (v79<v3))=true then(ix v80 v60).bind fun v86=>(ix v80 v60).bind fun v88=>(ix v88 v79).bind fun v90=>(ix v80 v14).bind fun v92=>(ix v92 v79).bind fun v94=>(fh v77 v94).bind fun v96=>(ks v90 v96).bind fun v98=>(ix v86 v79).bind fun v100=>some (St.next ((IntKind.i64.wrap (v79+1)),(v80.set v60.toNat (v86.set v79.toNat v98))))else some (St.done v80))
def iT(v3:Int)(v14:Int)(v60:Int)(v61:List (List Rat)):Option (St (Int×(List (List Rat))) (List (List Rat))):=(if(decide (v60<v3))=true then((ix v61 v60).bind fun v69=>(ix v69 v14).bind fun v71=>(ix v61 v14).bind fun v73=>(ix v73 v14).bind fun v75=>(fV v71 v75).bind fun v77=>(Loop (fun(s:Int×(List (List Rat)))=>lH v3 v14 v60 v77 s.1 s.2) (v14,v61)).bind fun v102=>some (v102)).bind fun v103=>some (St.next ((IntKind.i64.wrap (v60+1)),v103))else some (St.done v61))
def dM(v3:Int)(v8:List (List Rat))(v14:Int)(v15:List (List Rat))(v16:Rat):Option (St (Int×(List (List Rat))×Rat) (Ex Rat (Rat×Int))):=(if(decide (v14<(v8.length:Int)))=true then((Loop (fun(s:Int)=>ov v3 v14 v15 s) v14).bind fun v37=>(if(v37==v3)=true then some (Ex.ret (0,0))else((if(v37 !=v14)=true then(ix v15 v14).bind fun v42=>(ix v15 v37).bind fun v44=>(ix v15 v37).bind fun v46=>(ix v15 v14).bind fun v48=>(pg v16).bind fun v50=>some ((((v15.set v37.toNat v42).set v14.toNat v46),v50))else some ((v15,v16)))).bind fun(v52,v53)=>(ix v52 v14).bind fun v54=>(ix v54 v14).bind fun v56=>(fh v53 v56).bind fun v58=>(Loop (fun(s:Int×(List (List Rat)))=>iT v3 v14 s.1 s.2) ((IntKind.i64.wrap (v14+1)),v52)).bind fun v104=>some (Ex.cd (v104,v58)))).bind fun o22=>(match o22 with|Ex.cd (v105,v106)=>some (St.next ((IntKind.i64.wrap (v14+1)),v105,v106))|Ex.ret (r107,r108)=>some (St.done (Ex.ret (r107,r108))))else some (St.done (Ex.cd v16)))
def tY(a1:List (List Rat)):Option (Rat×Int):=(gl a1).bind fun(v2,v3,v4)=>(if(!v4)=true then some (0,2)else(if(v2 !=v3)=true then some (0,2)else(gB a1).bind fun v8=>(fY 1).bind fun v10=>((Loop (fun(s:Int×(List (List Rat))×Rat)=>dM v3 v8 s.1 s.2.1 s.2.2) (0,v8,v10)).bind fun o17=>(match o17 with|Ex.cd v109=>some (Ex.cd v109)|Ex.ret (r110,r111)=>some (Ex.ret (r110,r111)))).bind fun o12=>(match o12 with|Ex.cd v112=>some (v112,0)|Ex.ret (r113,r114)=>some (r113,r114))))
theorem IZ{a1:List (List Rat)}{r115:Rat}{r116:Int}(h:tY a1=some (r115,r116)):bf PP 131 [] [ai (ak.slice ak.rat) a1] [] (D.ig [qD r115,D.int .i64 r116]):=by
 unfold tY at h;refine .of Go.Proofs.Tryz.func131 rfl (by kernel_rfl) rfl rfl rfl rfl rfl rfl (fun A w0 L b=>?_);show Ok PP _ [(0,ai (ak.slice ak.rat) a1)] [] _ _;refine .al (.fN (qC (0)) aI ⟨lY,lZ,l4,trivial⟩ rfl<|.aq rfl<|.nil) rfl ?_;obtain⟨⟨v2,v3,v4⟩,e5,h⟩:=bind_some h;refine .al (.mv rfl<|.ag (lj e5) ⟨rfl,trivial⟩ trivial trivial<|.mv rfl<|.ext rfl rfl<|.ext rfl rfl<|.ext rfl rfl<|.aq rfl<|.aq rfl<|.aq rfl<|.nil) rfl ?_;refine .sq ?_;by_cases c6:(!v4)=true
 ·replace h:=ab c6 h;refine .al (.mv rfl<|.not rfl<|.mv rfl<|.gk c6<|.gk c6<|.gk c6<|.aX rfl c6 rfl<|.nil) rfl ?_;refine .cl rfl rfl ?_;refine .al (.n_ (qC (0)) [] aI cY trivial trivial ⟨lY,lZ,l4,trivial⟩<|.cU (qC (0)) rfl rfl rfl ae rfl rfl rfl<|.aq rfl<|.nil) rfl ?_;cases h;refine .aO (fun _ _ hb=>hb) rfl (.cons (.agg rfl rfl ae rfl) (.t1 (.tmp rfl))) (.refl _) trivial trivial
 ·replace h:=aa c6 h;refine .al (.mv rfl<|.not rfl<|.mv rfl<|.gz c6<|.mv rfl<|.gz c6<|.mv rfl<|.gz c6<|.cm rfl rfl rfl<|.aT rfl c6 rfl<|.nil) rfl ?_;by_cases c7:(v2 !=v3)=true
  ·replace h:=ab c7 h;refine .cl rfl c7 ?_;refine .al (.n_ (qC (0)) [] aI cY trivial trivial ⟨lY,lZ,l4,trivial⟩<|.cU (qC (0)) rfl rfl rfl ae rfl rfl rfl<|.aq rfl<|.nil) rfl ?_;cases h;refine .aO (fun _ _ hb=>hb) rfl (.cons (.agg rfl rfl ae rfl) (.t1 (.tmp rfl))) (.refl _) trivial trivial
  ·replace h:=aa c7 h;refine .cq rfl c7 ?_;refine .skip (Ok.on ?_);obtain⟨v8,e9,h⟩:=bind_some h;refine .al (.mv rfl<|.ag (Hi:=[]) (Ho:=[(29,Hp.cb ak.rat 68 3000029 ([])),(3000029,Hp.store ak.rat 28 v8)]) (d:=D.own 29) (ds:=[ai (ak.slice ak.rat) a1]) (.zu (np e9) (fun r=>match r with|6=>29|4000006=>3000029|r=>r) (fun r=>match r with|29=>6|3000029=>4000006|r=>r) rfl trivial rfl ⟨.refl rfl,trivial⟩ (.p rfl (.cb (s:=3000029))<|.r rfl rfl<|trivial) rfl (.own (r:=29)) rfl rfl rfl rfl rfl) ⟨rfl,trivial⟩ trivial ⟨rfl,rfl,trivial⟩<|.aq rfl<|.nil) rfl ?_;obtain⟨v10,e11,h⟩:=bind_some h;refine .al (.ag (kK e11) ⟨rfl,trivial⟩ trivial trivial<|.fN (qC (0)) aI ⟨lY,lZ,l4,trivial⟩ rfl<|.cU (qC (v10)) rfl rfl rfl ae rfl rfl rfl<|.nil) rfl ?_;obtain⟨o12,hp13,h⟩:=bind_some h;refine .cc (fun i=>o12=Ex.cd i) (fun(i:Rat)=>[(2,D.ref 2 0),(8,D.ref 8 0)]) (fun(i:Rat)=>[(2,Hp.box 28 (qC (0))),(8,Hp.box 28 (qC (i)))]) ?_ ?_
   ·have ho1:=h;have h:=hp13;refine .fH 7 rfl rfl rfl ?_;refine .al (.mv rfl<|.uW rfl bA<|.mv rfl<|.nil) rfl ?_;obtain⟨o17,hl18,h⟩:=bind_some h;have ho2:=h;refine .block (.bU (fun(s:Int×(List (List Rat))×Rat)=>[(2,D.ref 2 0),(5,D.int .i64 v3),(7,D.own 29),(8,D.ref 8 0),(32,D.int .i64 (v8.length:Int)),(33,D.int .i64 s.1)]) (fun(s:Int×(List (List Rat))×Rat)=>[(2,Hp.box 28 (qC (0))),(29,Hp.cb ak.rat 68 3000029 ([])),(3000029,Hp.store ak.rat 28 s.2.1),(8,Hp.box 28 (qC (s.2.2)))]) hl18 (.k rfl<|.k rfl<|.p rfl .sl<|.k rfl<|.k rfl<|.k rfl<|trivial) (.of rfl) rfl rfl ?_);rintro⟨v14,v15,v16⟩ st19 hb20;have h:dM v3 v8 v14 v15 v16=some st19:=hb20;unfold dM at h
    try dsimp only
    refine .al (.cm rfl rfl rfl<|.nil) rfl ?_;refine .sq ?_;by_cases c21:(decide (v14<(v8.length:Int)))=true
    ·replace h:=ab c21 h;refine .cl rfl c21 ?_;refine .skip (Ok.on ?_);obtain⟨o22,hp23,h⟩:=bind_some h;refine .cc (fun i=>o22=Ex.cd i) (fun(i:(List (List Rat))×Rat)=>[(2,D.ref 2 0),(5,D.int .i64 v3),(7,D.own 29),(8,D.ref 8 0),(32,D.int .i64 (v8.length:Int)),(33,D.int .i64 v14)]) (fun(i:(List (List Rat))×Rat)=>[(2,Hp.box 28 (qC (0))),(29,Hp.cb ak.rat 68 4000029 ([])),(4000029,Hp.store ak.rat 28 i.1),(8,Hp.box 28 (qC (i.2)))]) ?_ ?_
     ·have ho3:=h;have h:=hp23;refine .block ?_;refine .al (.mv rfl<|.aq rfl<|.nil) rfl ?_;refine .al (.mv rfl<|.aq rfl<|.nil) rfl ?_;obtain⟨v37,hl26,h⟩:=bind_some h;refine .cc (fun i=>v37=i) (fun(i:Int)=>[(2,D.ref 2 0),(5,D.int .i64 v3),(7,D.own 29),(8,D.ref 8 0),(9,D.int .i64 v14),(10,D.int .i64 i),(32,D.int .i64 (v8.length:Int)),(33,D.int .i64 v14)]) (fun(i:Int)=>[(2,Hp.box 28 (qC (0))),(29,Hp.cb ak.rat 68 3000029 ([])),(3000029,Hp.store ak.rat 28 v15),(8,Hp.box 28 (qC (v16)))]) ?_ ?_
      ·have ho4:=h;refine .block (.bU (fun(s:Int)=>[(2,D.ref 2 0),(5,D.int .i64 v3),(7,D.own 29),(8,D.ref 8 0),(9,D.int .i64 v14),(10,D.int .i64 s),(32,D.int .i64 (v8.length:Int)),(33,D.int .i64 v14)]) (fun(s:Int)=>[(2,Hp.box 28 (qC (0))),(29,Hp.cb ak.rat 68 3000029 ([])),(3000029,Hp.store ak.rat 28 v15),(8,Hp.box 28 (qC (v16)))]) hl26 (.of rfl) (.of rfl) rfl rfl ?_);rintro v24 st27 hb28;have h:ov v3 v14 v15 v24=some st27:=hb28;unfold ov at h
       try dsimp only
       refine .sq ?_;refine .fH 7 rfl rfl rfl ?_;by_cases c29:(decide (v24<v3))=true
       ·replace h:=ab c29 h;obtain⟨v30,e31,h⟩:=bind_some h;obtain⟨v32,e33,h⟩:=bind_some h;obtain⟨v34,e35,h⟩:=bind_some h;refine .al (.mv rfl<|.mv rfl<|.cm rfl rfl rfl<|.mv rfl<|.gy c29<|.mv rfl<|.gy c29<|.mv rfl<|.gy c29<|.ic rfl rfl aA (af e31).1 (by have:=dE e31;simpa using this)<|.gy c29<|.jl (bn e31) rfl rfl rfl rfl aC<|.gy c29<|.mv rfl<|.gy c29<|.lQ rfl rfl rfl (af e31).2 aV (af e33).1 (dE e33) rfl<|.gy c29<|.gJ rfl rfl (af e31).2 (af e33).2 ae rfl rfl<|.gy c29<|.ag (iv e35) ⟨rfl,trivial⟩ trivial trivial<|.gy c29<|.cm rfl rfl rfl<|.aX rfl c29 rfl<|.nil) rfl ?_;by_cases c36:(v34==0)=true
        ·replace h:=ab c36 h;refine .cl rfl c36 ?_;refine .skip (Ok.on ?_);refine .block ?_;refine .region (.mv rfl<|.ar rfl rfl rfl<|.aq rfl<|.nil) rfl (fun _ _ hs=>⟨(IntKind.i64.wrap (v24+1)),(sj h),hs.sub (.k rfl<|.k rfl<|.p rfl .sl<|.k rfl<|.k rfl<|.k rfl<|.k rfl<|.k rfl<|trivial) (.of rfl) rfl rfl⟩)
        ·replace h:=aa c36 h;refine .cq rfl c36 ?_;refine .exit (fun _ _ hs=>⟨_,(sj h),fun e=>⟨v24,e.symm,hs.sub (.k rfl<|.k rfl<|.p rfl .sl<|.k rfl<|.k rfl<|.k rfl<|.k rfl<|.k rfl<|trivial) (.of rfl) rfl rfl⟩⟩)
       ·replace h:=aa c29 h;refine .al (.mv rfl<|.mv rfl<|.cm rfl rfl rfl<|.mv rfl<|.gm c29<|.gm c29<|.gm c29<|.gm c29<|.gm c29<|.gm c29<|.gm c29<|.gm c29<|.gm c29<|.aT rfl c29 rfl<|.nil) rfl ?_;refine .cq rfl (by decide) ?_;refine .exit (fun _ _ hs=>⟨_,(sj h),fun e=>⟨v24,e.symm,hs.sub (.k rfl<|.k rfl<|.p rfl .sl<|.k rfl<|.k rfl<|.k rfl<|.k rfl<|.k rfl<|trivial) (.of rfl) rfl rfl⟩⟩)
      ·rintro _ rfl
       try dsimp only
       refine .sq ?_;refine .al (.mv rfl<|.mv rfl<|.cm rfl rfl rfl<|.nil) rfl ?_;by_cases c38:(v37==v3)=true
       ·replace h:=ab c38 h;refine .cl rfl c38 ?_;refine .al (.n_ (qC (0)) [] aI cY trivial trivial ⟨lY,lZ,l4,trivial⟩<|.cU (qC (0)) rfl rfl rfl ae rfl rfl rfl<|.aq rfl<|.nil) rfl ?_;cases h;have h:=ho3;refine .aO (Hi:=[]) (Ho:=[]) (b:=b) (fn:=Go.Proofs.Tryz.f131) (d:=D.ig [qD 0,D.int .i64 0]) (fun _ _ hb=>by exact⟨_,(sj h),fun e=>by subst e;have h:=ho2;cases h;have h:=ho1;cases h;exact hb⟩) rfl (.cons (.agg rfl rfl ae rfl) (.t1 (.tmp rfl))) (.refl _) trivial trivial
       ·replace h:=aa c38 h;refine .cq rfl c38 ?_;refine .skip (Ok.on ?_);obtain⟨o39,hp40,h⟩:=bind_some h;refine .cc (fun i=>o39=i) (fun(i:(List (List Rat))×Rat)=>[(2,D.ref 2 0),(5,D.int .i64 v3),(7,D.own 29),(8,D.ref 8 0),(9,D.int .i64 v14),(32,D.int .i64 (v8.length:Int)),(33,D.int .i64 v14)]) (fun(i:(List (List Rat))×Rat)=>[(2,Hp.box 28 (qC (0))),(29,Hp.cb ak.rat 68 4000029 ([])),(4000029,Hp.store ak.rat 28 i.1),(8,Hp.box 28 (qC (i.2)))]) ?_ ?_
        ·have ho4:=h;have h:=hp40;refine .al (.mv rfl<|.mv rfl<|.cm rfl rfl rfl<|.nil) rfl ?_;by_cases c41:(v37 !=v14)=true
         ·replace h:=ab c41 h;refine .cl rfl c41 ?_;refine .fH 7 rfl rfl rfl ?_;obtain⟨v42,e43,h⟩:=bind_some h;obtain⟨v44,e45,h⟩:=bind_some h;obtain⟨v46,e47,h⟩:=bind_some h;obtain⟨v48,e49,h⟩:=bind_some h;refine .cZ cf (.mv rfl<|.mv rfl<|.mv rfl<|.mv rfl<|.mv rfl<|.mv rfl<|.ic rfl rfl aA (af e43).1 (by have:=dE e43;simpa using this)<|.jl (bn e43) rfl rfl rfl rfl aC<|.mv rfl<|.mv rfl<|.ic rfl rfl aA (af e45).1 (by have:=dE e45;simpa using this)<|.jl (bn e45) rfl rfl rfl rfl aC<|.ic rfl rfl aA (af e47).1 (by have:=dE e47;simpa using this)<|.Jp (bn e47) rfl rfl rfl rfl rfl aC<|.ic rfl rfl aA (af e49).1 (by have:=dE e49;simpa using this)<|.Jv (by have:=bn e49;simpa using this) rfl rfl rfl rfl rfl aC<|.nil) rfl (by kernel_rfl) ?_;refine .Be (r:=29) (s:=3000029) (i:=v37) (k:=v14) 4000029 rfl rfl rfl rfl (af e47).2 (af e43).2 ?_;obtain⟨v50,e51,h⟩:=bind_some h;refine .region (.ck (qC (v16)) rfl rfl ae rfl rfl<|.ag (EL e51) ⟨rfl,trivial⟩ trivial trivial<|.cU (qC (v50)) rfl rfl rfl ae rfl rfl rfl<|.nil) rfl (fun _ _ hs=>⟨(((v15.set v37.toNat v42).set v14.toNat v46),v50),(sj h),hs.sub (.k rfl<|.k rfl<|.p rfl .sl<|.k rfl<|.k rfl<|.k rfl<|.k rfl<|trivial) (.of rfl) rfl rfl⟩)
         ·replace h:=aa c41 h;refine .cq rfl c41 ?_;refine .skip (fun _ _ hs=>⟨(v15,v16),(sj h),hs.kz (fun r=>match r with|4000029=>3000029|r=>r) (.p rfl (.ref (r:=2))<|.r rfl rfl<|.p rfl (.own (r:=29))<|.p rfl (.ref (r:=8))<|.r rfl rfl<|.r rfl rfl<|.r rfl rfl<|trivial) (.r rfl rfl<|.p rfl (.cb (s:=4000029))<|.r rfl rfl<|.r rfl rfl<|trivial) rfl rfl rfl⟩)
        ·rintro⟨v52,v53⟩ rfl
         try dsimp only
         refine .fH 7 rfl rfl rfl ?_;obtain⟨v54,e55,h⟩:=bind_some h;obtain⟨v56,e57,h⟩:=bind_some h;obtain⟨v58,e59,h⟩:=bind_some h;refine .cZ cf (.ck (qC (v53)) rfl rfl ae rfl rfl<|.mv rfl<|.mv rfl<|.ic rfl rfl aA (af e55).1 (by have:=dE e55;simpa using this)<|.jl (bn e55) rfl rfl rfl rfl aC<|.mv rfl<|.lQ rfl rfl rfl (af e55).2 aV (af e57).1 (dE e57) rfl<|.gJ rfl rfl (af e55).2 (af e57).2 ae rfl rfl<|.ag (lE e59) ⟨rfl,rfl,trivial⟩ trivial trivial<|.cU (qC (v58)) rfl rfl rfl ae rfl rfl rfl<|.nil) rfl (by kernel_rfl) ?_;refine .al (.mv rfl<|.ar rfl rfl rfl<|.aq rfl<|.nil) rfl ?_;obtain⟨o62,hl63,h⟩:=bind_some h;have ho4:=h;refine .block (.bU (fun(s:Int×(List (List Rat)))=>[(2,D.ref 2 0),(5,D.int .i64 v3),(7,D.own 29),(8,D.ref 8 0),(9,D.int .i64 v14),(11,D.int .i64 s.1),(32,D.int .i64 (v8.length:Int)),(33,D.int .i64 v14)]) (fun(s:Int×(List (List Rat)))=>[(2,Hp.box 28 (qC (0))),(29,Hp.cb ak.rat 68 4000029 ([])),(4000029,Hp.store ak.rat 28 s.2),(8,Hp.box 28 (qC (v58)))]) hl63 (.k rfl<|.k rfl<|.p rfl .sl<|.k rfl<|.k rfl<|.k rfl<|.k rfl<|.k rfl<|trivial) (.of rfl) rfl rfl ?_);rintro⟨v60,v61⟩ st64 hb65;have h:iT v3 v14 v60 v61=some st64:=hb65;unfold iT at h
         try dsimp only
         refine .sq ?_;refine .al (.mv rfl<|.mv rfl<|.cm rfl rfl rfl<|.nil) rfl ?_;by_cases c66:(decide (v60<v3))=true
         ·replace h:=ab c66 h;refine .cl rfl c66 ?_;refine .skip (Ok.on ?_);obtain⟨v103,hp68,h⟩:=bind_some h;refine .cc (fun i=>v103=i) (fun(i:(List (List Rat)))=>[(2,D.ref 2 0),(5,D.int .i64 v3),(7,D.own 29),(8,D.ref 8 0),(9,D.int .i64 v14),(11,D.int .i64 v60),(32,D.int .i64 (v8.length:Int)),(33,D.int .i64 v14)]) (fun(i:(List (List Rat)))=>[(2,Hp.box 28 (qC (0))),(29,Hp.cb ak.rat 68 4000029 ([])),(4000029,Hp.store ak.rat 28 i),(8,Hp.box 28 (qC (v58)))]) ?_ ?_
          ·have ho5:=h;have h:=hp68;refine .block ?_;refine .fH 7 rfl rfl rfl ?_;obtain⟨v69,e70,h⟩:=bind_some h;obtain⟨v71,e72,h⟩:=bind_some h;obtain⟨v73,e74,h⟩:=bind_some h;obtain⟨v75,e76,h⟩:=bind_some h;obtain⟨v77,e78,h⟩:=bind_some h;refine .cZ cf (.mv rfl<|.mv rfl<|.ic rfl rfl aA (af e70).1 (by have:=dE e70;simpa using this)<|.jl (bn e70) rfl rfl rfl rfl aC<|.mv rfl<|.lQ rfl rfl rfl (af e70).2 aV (af e72).1 (dE e72) rfl<|.gJ rfl rfl (af e70).2 (af e72).2 ae rfl rfl<|.mv rfl<|.mv rfl<|.ic rfl rfl aA (af e74).1 (by have:=dE e74;simpa using this)<|.jl (bn e74) rfl rfl rfl rfl aC<|.mv rfl<|.lQ rfl rfl rfl (af e74).2 aV (af e76).1 (dE e76) rfl<|.gJ rfl rfl (af e74).2 (af e76).2 ae rfl rfl<|.ag (lh e78) ⟨rfl,rfl,trivial⟩ trivial trivial<|.fN (qC (0)) aI ⟨lY,lZ,l4,trivial⟩ rfl<|.cU (qC (v77)) rfl rfl rfl ae rfl rfl rfl<|.nil) rfl (by kernel_rfl) ?_;refine .al (.mv rfl<|.aq rfl<|.nil) rfl ?_;obtain⟨o81,hl82,h⟩:=bind_some h;have ho6:=h;refine .block (.bU (fun(s:Int×(List (List Rat)))=>[(2,D.ref 2 0),(5,D.int .i64 v3),(7,D.own 29),(8,D.ref 8 0),(9,D.int .i64 v14),(11,D.int .i64 v60),(12,D.ref 12 0),(13,D.int .i64 s.1),(32,D.int .i64 (v8.length:Int)),(33,D.int .i64 v14)]) (fun(s:Int×(List (List Rat)))=>[(2,Hp.box 28 (qC (0))),(29,Hp.cb ak.rat 68 4000029 ([])),(4000029,Hp.store ak.rat 28 s.2),(8,Hp.box 28 (qC (v58))),(12,Hp.box 28 (qC (v77)))]) hl82 (.k rfl<|.k rfl<|.p rfl .sl<|.k rfl<|.k rfl<|.k rfl<|.k rfl<|.k rfl<|.k rfl<|.k rfl<|trivial) (.of rfl) rfl rfl ?_);rintro⟨v79,v80⟩ st83 hb84;have h:lH v3 v14 v60 v77 v79 v80=some st83:=hb84;unfold lH at h
           try dsimp only
           refine .sq ?_;refine .al (.mv rfl<|.mv rfl<|.cm rfl rfl rfl<|.nil) rfl ?_;by_cases c85:(decide (v79<v3))=true
           ·replace h:=ab c85 h;refine .cl rfl c85 ?_;refine .skip (Ok.on ?_);refine .sq ?_;refine .block ?_;refine .fH 7 rfl rfl rfl ?_;obtain⟨v86,e87,h⟩:=bind_some h;obtain⟨v88,e89,h⟩:=bind_some h;obtain⟨v90,e91,h⟩:=bind_some h;obtain⟨v92,e93,h⟩:=bind_some h;obtain⟨v94,e95,h⟩:=bind_some h;obtain⟨v96,e97,h⟩:=bind_some h;obtain⟨v98,e99,h⟩:=bind_some h;obtain⟨v100,e101,h⟩:=bind_some h;refine .c_ cf (.mv rfl<|.mv rfl<|.ic rfl rfl aA (af e87).1 (by have:=dE e87;simpa using this)<|.jl (bn e87) rfl rfl rfl rfl aC<|.mv rfl<|.mv rfl<|.mv rfl<|.ic rfl rfl aA (af e89).1 (by have:=dE e89;simpa using this)<|.jl (bn e89) rfl rfl rfl rfl aC<|.mv rfl<|.lQ rfl rfl rfl (af e89).2 aV (af e91).1 (dE e91) rfl<|.gJ rfl rfl (af e89).2 (af e91).2 ae rfl rfl<|.ck (qC (v77)) rfl rfl ae rfl rfl<|.mv rfl<|.mv rfl<|.ic rfl rfl aA (af e93).1 (by have:=dE e93;simpa using this)<|.jl (bn e93) rfl rfl rfl rfl aC<|.mv rfl<|.lQ rfl rfl rfl (af e93).2 aV (af e95).1 (dE e95) rfl<|.gJ rfl rfl (af e93).2 (af e95).2 ae rfl rfl<|.ag (lE e97) ⟨rfl,rfl,trivial⟩ trivial trivial<|.ag (rX e99) ⟨rfl,rfl,trivial⟩ trivial trivial<|.lQ rfl rfl rfl (af e87).2 aV (af e101).1 (dE e101) rfl<|.xr v98 rfl rfl rfl (af e87).2 (bn e101) ae rfl rfl rfl<|.nil) rfl (by kernel_rfl) (Ok.on ?_);refine .region (.mv rfl<|.ar rfl rfl rfl<|.aq rfl<|.nil) rfl (fun _ _ hs=>⟨((IntKind.i64.wrap (v79+1)),(v80.set v60.toNat (v86.set v79.toNat v98))),(sj h),hs.sub (.k rfl<|.k rfl<|.p rfl .sl<|.k rfl<|.k rfl<|.k rfl<|.k rfl<|.k rfl<|.k rfl<|.k rfl<|trivial) (.of rfl) rfl rfl⟩)
           ·replace h:=aa c85 h;refine .cq rfl c85 ?_;refine .exit (fun a w hs=>⟨_,(sj h),fun e=>by subst e;have h:=ho6;exact aS (⟨v80,(sj h),hs.sub (.of rfl) (.of rfl) rfl rfl⟩)⟩)
          ·rintro _ rfl
           try dsimp only
           refine .region (.mv rfl<|.ar rfl rfl rfl<|.aq rfl<|.nil) rfl (fun _ _ hs=>⟨((IntKind.i64.wrap (v60+1)),v103),(sj h),hs.sub (.of rfl) (.of rfl) rfl rfl⟩)
         ·replace h:=aa c66 h;refine .cq rfl c66 ?_;refine .exit (fun a w hs=>⟨_,(sj h),fun e=>by subst e;have h:=ho4;exact aS (⟨(v61,v58),(sj h),hs.sub (.of rfl) (.of rfl) rfl rfl⟩)⟩)
     ·rintro⟨v105,v106⟩ rfl
      try dsimp only
      refine .region (.ar rfl rfl rfl<|.mv rfl<|.nil) rfl (fun _ _ hs=>⟨((IntKind.i64.wrap (v14+1)),v105,v106),(sj h),hs.kz (fun r=>match r with|3000029=>4000029|r=>r) (.p rfl (.ref (r:=2))<|.r rfl rfl<|.p rfl (.own (r:=29))<|.p rfl (.ref (r:=8))<|.r rfl rfl<|.r rfl rfl<|trivial) (.r rfl rfl<|.p rfl (.cb (s:=3000029))<|.r rfl rfl<|.r rfl rfl<|trivial) rfl rfl rfl⟩)
    ·replace h:=aa c21 h;refine .cq rfl c21 ?_;refine .exit (fun a w hs=>⟨_,(sj h),fun e=>by subst e;have h:=ho2;exact aS (⟨v16,(sj h),hs.sub (.of rfl) (.of rfl) rfl rfl⟩)⟩)
   ·rintro v112 rfl
    try dsimp only
    refine .al (.ck (qC (v112)) rfl rfl ae rfl rfl<|.cU (qC (v112)) rfl rfl rfl ae rfl rfl rfl<|.aq rfl<|.nil) rfl ?_;cases h;refine .aO (fun _ _ hb=>hb) rfl (.cons (.agg rfl rfl ae rfl) (.t1 (.tmp rfl))) (.refl _) trivial trivial
def gi(v6:List Rat)(a8:Rat)(v9:List Rat)(v13:Int)(v14:List Rat):Option (St (Int×(List Rat)) (List Rat)):=(if(decide (v13<(v9.length:Int)))=true then(ix v14 v13).bind fun v20=>(ix v6 v13).bind fun v22=>(fh a8 v22).bind fun v24=>(jj v20 v24).bind fun v26=>some (St.next ((IntKind.i64.wrap (v13+1)),(v14.set v13.toNat v26)))else some (St.done v14))
def k_(a2:Int)(a5:Int)(a8:Rat)(a1:List (List Rat)):Option (List Rat):=(ix a1 a2).bind fun v3=>(ix a1 a5).bind fun v6=>(n7 a1 a2.toNat 0).bind fun v9=>((Loop (fun(s:Int×(List Rat))=>gi v6 a8 v9 s.1 s.2) (0,v9)).bind fun v28=>some (v28)).bind fun v29=>some v29
theorem vB{a2:Int}{a5:Int}{a8:Rat}{a1:List (List Rat)}{r30:List Rat}(h:k_ a2 a5 a8 a1=some r30):bf PP 208 [(400,Hp.store ak.rat 28 a1)] [D.mr 400 a2.toNat,D.mr 400 a5.toNat,qD a8] [(400,Hp.store ak.rat 28 a1),(10,aY ak.rat 28 r30)] (D.own 10):=by
 unfold k_ at h;refine .of Go.Proofs.Tryz.func208 rfl (by kernel_rfl) rfl rfl rfl rfl rfl rfl (fun A w0 L b=>?_);show Ok PP _ [(0,D.mr 400 a2.toNat),(1,D.mr 400 a5.toNat),(2,qD a8),(1000400,D.pinned 400 (b 400))] [(400,Hp.store ak.rat 28 a1)] _ _;obtain⟨v3,e4,h⟩:=bind_some h;obtain⟨v6,e7,h⟩:=bind_some h;refine .al (.iP rfl rfl<|.aq rfl<|.nil) rfl ?_;obtain⟨v9,e10,h⟩:=bind_some h;refine .al (.mv rfl<|.ag (Hi:=[(400,Hp.store ak.rat 28 a1)]) (Ho:=[(400,Hp.store ak.rat 28 a1),(10,aY ak.rat 28 v9)]) (d:=D.own 10) (ds:=[D.mr 400 a2.toNat]) (.zu (xL e10) (fun r=>match r with|400=>400|7=>10|r=>r) (fun r=>match r with|400=>400|10=>7|r=>r) rfl (.r rfl rfl trivial) rfl ⟨.KP (s:=400),trivial⟩ (.r rfl rfl<|.r rfl rfl<|trivial) rfl (.own (r:=10)) rfl rfl rfl rfl rfl) ⟨rfl,trivial⟩ ⟨rfl,trivial⟩ ⟨rfl,trivial⟩<|.aq rfl<|.nil) rfl ?_;obtain⟨v29,hp12,h⟩:=bind_some h;refine .cc (fun i=>v29=i) (fun(i:(List Rat))=>[(7,D.own 10),(1000400,D.pinned 400 (b 400))]) (fun(i:(List Rat))=>[(10,aY ak.rat 28 i),(400,Hp.store ak.rat 28 a1)]) ?_ ?_
 ·have ho1:=h;have h:=hp12;refine .sl 7 rfl rfl rfl ?_;refine .al (.mv rfl<|.uW rfl bP<|.mv rfl<|.nil) rfl ?_;obtain⟨o15,hl16,h⟩:=bind_some h;have ho2:=h;refine .block (.bU (fun(s:Int×(List Rat))=>[(1,D.mr 400 a5.toNat),(5,D.ref 5 0),(7,D.own 10),(12,D.int .i64 (v9.length:Int)),(13,D.int .i64 s.1),(1000400,D.pinned 400 (b 400))]) (fun(s:Int×(List Rat))=>[(5,Hp.box 28 (qC (a8))),(10,aY ak.rat 28 s.2),(400,Hp.store ak.rat 28 a1)]) hl16 (.k rfl<|.k rfl<|.p rfl .sl<|.k rfl<|.k rfl<|.k rfl<|trivial) (.of rfl) rfl rfl ?_);rintro⟨v13,v14⟩ st17 hb18;have h:gi v6 a8 v9 v13 v14=some st17:=hb18;unfold gi at h
  try dsimp only
  refine .al (.cm rfl rfl rfl<|.nil) rfl ?_;refine .sq ?_;by_cases c19:(decide (v13<(v9.length:Int)))=true
  ·replace h:=ab c19 h;refine .cl rfl c19 ?_;refine .skip (Ok.on ?_);refine .sq ?_;refine .block ?_;refine .al (.mv rfl<|.aq rfl<|.nil) rfl ?_;refine .sl 7 rfl rfl rfl ?_;obtain⟨v20,e21,h⟩:=bind_some h;obtain⟨v22,e23,h⟩:=bind_some h;obtain⟨v24,e25,h⟩:=bind_some h;obtain⟨v26,e27,h⟩:=bind_some h;refine .c_ cf (.mv rfl<|.mv rfl<|.mv rfl<|.mv rfl<|.ic rfl rfl aV (af e21).1 (by have:=dE e21;simpa using this)<|.JC rfl rfl ae rfl (af e21).2 rfl<|.ck (qC (a8)) rfl rfl ae rfl rfl<|.mv rfl<|.mv rfl<|.lQ rfl rfl rfl (af e7).2 aV (af e23).1 (dE e23) rfl<|.gJ rfl rfl (af e7).2 (af e23).2 ae rfl rfl<|.ag (lE e25) ⟨rfl,rfl,trivial⟩ trivial trivial<|.ag (mL e27) ⟨rfl,rfl,trivial⟩ trivial trivial<|.ic rfl rfl aV (af e21).1 (by have:=dE e21;simpa using this)<|.IU v26 rfl rfl rfl ae rfl rfl rfl (bn e21)<|.nil) rfl (by kernel_rfl) (Ok.on ?_);refine .region (.ar rfl rfl rfl<|.mv rfl<|.nil) rfl (fun _ _ hs=>⟨((IntKind.i64.wrap (v13+1)),(v14.set v13.toNat v26)),(sj h),hs.sub (.k rfl<|.k rfl<|.p rfl .sl<|.k rfl<|.k rfl<|.k rfl<|trivial) (.of rfl) rfl rfl⟩)
  ·replace h:=aa c19 h;refine .cq rfl c19 ?_;refine .exit (fun a w hs=>⟨_,(sj h),fun e=>by subst e;have h:=ho2;exact aS (⟨v14,(sj h),hs.sub (.of rfl) (.of rfl) rfl rfl⟩)⟩)
 ·rintro _ rfl
  try dsimp only
  refine .sl 7 rfl rfl rfl ?_;refine .al (.mv rfl<|.aq rfl<|.nil) rfl ?_;refine .sQ 6 (.own 10) rfl .sl ?_;cases h;refine .aO (fun _ _ hb=>hb) rfl (.t1 (.tmp rfl)) (.refl _) (.of rfl) (.of rfl)
def gq(v3:Int)(v8:List (List Rat))(v12:Int)(v13:List (List Rat)):Option (St (Int×(List (List Rat))) (List (List Rat))):=(if(decide (v12<(v8.length:Int)))=true then(ix v13 v12).bind fun v19=>cj ((0:Int)<=v3/\(v19.length+v3.toNat)*56<=140737488355328/\v19.length+v3.toNat<=9223372036854775807) ((ix (v13.set v12.toNat (v19++List.replicate v3.toNat (0:Rat))) v12).bind fun v22=>(fY 1).bind fun v24=>(ix v22 (IntKind.i64.wrap (v3+v12))).bind fun v26=>some (St.next ((IntKind.i64.wrap (v12+1)),((v13.set v12.toNat (v19++List.replicate v3.toNat (0:Rat))).set v12.toNat (v22.set (IntKind.i64.wrap (v3+v12)).toNat v24)))))else some (St.done v13))
def fv(v3:Int)(v39:List (List Rat))(v42:Int)(v43:List (List Rat)):Option (St (Int×(List (List Rat))) (List (List Rat))):=(if(decide (v42<(v39.length:Int)))=true then(ix v43 v42).bind fun v49=>cj ((0:Int)<=v3/\(v3:Int)<=(v49.length:Int)) ((n7 v43 v42.toNat v3.toNat).bind fun v52=>(ix v43 v42).bind fun v54=>some (St.next ((IntKind.i64.wrap (v42+1)),(v43.set v42.toNat v52))))else some (St.done v43))
def iH(a1:List (List Rat)):Option ((List (List Rat))×Int):=(gl a1).bind fun(v2,v3,v4)=>(if(!v4)=true then some ([],(2:Int))else(if(v2 !=v3)=true then some ([],(2:Int))else(gB a1).bind fun v8=>((Loop (fun(s:Int×(List (List Rat)))=>gq v3 v8 s.1 s.2) (0,v8)).bind fun v28=>some (v28)).bind fun v29=>((jz v29).bind fun(v32,v33)=>(if(decide (v3>0))=true then(ix v33 (IntKind.i64.wrap (v3-1))).bind fun v36=>(if(v36 !=(IntKind.i64.wrap (v3-1)))=true then some (Ex.ret ([],(8:Int)))else some (Ex.cd v32))else some (Ex.cd v32))).bind fun o30=>(match o30 with|Ex.cd v39=>((Loop (fun(s:Int×(List (List Rat)))=>fv v3 v39 s.1 s.2) (0,v39)).bind fun v56=>some (v56)).bind fun v57=>some (v57,(0:Int))|Ex.ret (r58,r59)=>some (r58,r59))))
theorem BV{a1:List (List Rat)}{r60:List (List Rat)}{r61:Int}(h:iH a1=some (r60,r61)):bf PP 132 [] [ai (ak.slice ak.rat) a1] [] (D.ig [ai (ak.slice ak.rat) r60,D.int .i64 r61]):=by
 unfold iH at h;refine .of Go.Proofs.Tryz.func132 rfl (by kernel_rfl) rfl rfl rfl rfl rfl rfl (fun A w0 L b=>?_);show Ok PP _ [(0,ai (ak.slice ak.rat) a1)] [] _ _;refine .al (.aq rfl<|.aq rfl<|.nil) rfl ?_;obtain⟨⟨v2,v3,v4⟩,e5,h⟩:=bind_some h;refine .al (.mv rfl<|.ag (lj e5) ⟨rfl,trivial⟩ trivial trivial<|.mv rfl<|.ext rfl rfl<|.ext rfl rfl<|.ext rfl rfl<|.aq rfl<|.aq rfl<|.aq rfl<|.nil) rfl ?_;refine .sq ?_;by_cases c6:(!v4)=true
 ·replace h:=ab c6 h;refine .al (.mv rfl<|.not rfl<|.mv rfl<|.gk c6<|.gk c6<|.gk c6<|.aX rfl c6 rfl<|.nil) rfl ?_;refine .cl rfl rfl ?_;refine .al (.aq rfl<|.aq rfl<|.nil) rfl ?_;cases h;refine .aO (fun _ _ hb=>hb) rfl (.cons (.tmp rfl) (.t1 (.tmp rfl))) (.ig ⟨.jF _,.refl _,trivial⟩) trivial trivial
 ·replace h:=aa c6 h;refine .al (.mv rfl<|.not rfl<|.mv rfl<|.gz c6<|.mv rfl<|.gz c6<|.mv rfl<|.gz c6<|.cm rfl rfl rfl<|.aT rfl c6 rfl<|.nil) rfl ?_;by_cases c7:(v2 !=v3)=true
  ·replace h:=ab c7 h;refine .cl rfl c7 ?_;refine .al (.aq rfl<|.aq rfl<|.nil) rfl ?_;cases h;refine .aO (fun _ _ hb=>hb) rfl (.cons (.tmp rfl) (.t1 (.tmp rfl))) (.ig ⟨.jF _,.refl _,trivial⟩) trivial trivial
  ·replace h:=aa c7 h;refine .cq rfl c7 ?_;refine .skip (Ok.on ?_);obtain⟨v8,e9,h⟩:=bind_some h;refine .al (.mv rfl<|.ag (Hi:=[]) (Ho:=[(25,Hp.cb ak.rat 68 3000025 ([])),(3000025,Hp.store ak.rat 28 v8)]) (d:=D.own 25) (ds:=[ai (ak.slice ak.rat) a1]) (.zu (np e9) (fun r=>match r with|6=>25|4000006=>3000025|r=>r) (fun r=>match r with|25=>6|3000025=>4000006|r=>r) rfl trivial rfl ⟨.refl rfl,trivial⟩ (.p rfl (.cb (s:=3000025))<|.r rfl rfl<|trivial) rfl (.own (r:=25)) rfl rfl rfl rfl rfl) ⟨rfl,trivial⟩ trivial ⟨rfl,rfl,trivial⟩<|.aq rfl<|.nil) rfl ?_;obtain⟨v29,hp11,h⟩:=bind_some h;refine .cc (fun i=>v29=i) (fun(i:(List (List Rat)))=>[(5,D.int .i64 v3),(7,D.own 25)]) (fun(i:(List (List Rat)))=>[(25,Hp.cb ak.rat 68 3000025 ([])),(3000025,Hp.store ak.rat 28 i)]) ?_ ?_
   ·have ho1:=h;have h:=hp11;refine .fH 7 rfl rfl rfl ?_;refine .al (.mv rfl<|.uW rfl bA<|.mv rfl<|.nil) rfl ?_;obtain⟨o14,hl15,h⟩:=bind_some h;have ho2:=h;refine .block (.bU (fun(s:Int×(List (List Rat)))=>[(5,D.int .i64 v3),(7,D.own 25),(27,D.int .i64 (v8.length:Int)),(28,D.int .i64 s.1)]) (fun(s:Int×(List (List Rat)))=>[(25,Hp.cb ak.rat 68 3000025 ([])),(3000025,Hp.store ak.rat 28 s.2)]) hl15 (.k rfl<|.p rfl .sl<|.k rfl<|.k rfl<|trivial) (.of rfl) rfl rfl ?_);rintro⟨v12,v13⟩ st16 hb17;have h:gq v3 v8 v12 v13=some st16:=hb17;unfold gq at h
    try dsimp only
    refine .al (.cm rfl rfl rfl<|.nil) rfl ?_;refine .sq ?_;by_cases c18:(decide (v12<(v8.length:Int)))=true
    ·replace h:=ab c18 h;refine .cl rfl c18 ?_;refine .skip (Ok.on ?_);refine .sq ?_;refine .block ?_;refine .al (.mv rfl<|.aq rfl<|.nil) rfl ?_;refine .fH 7 rfl rfl rfl ?_;obtain⟨v19,e20,h⟩:=bind_some h;obtain⟨k21,h⟩:=av h;refine .al (.mv rfl<|.mv rfl<|.mv rfl<|.mv rfl<|.ic rfl rfl aA (af e20).1 (by have:=dE e20;simpa using this)<|.jl (bn e20) rfl rfl rfl rfl aC<|.mv rfl<|.JU (s2:=3000038) (r1:=6000038) (r:=25) 0 rfl rfl rfl rfl (af e20).2 eX (by kernel_rfl) rfl ⟨lY,lZ,l4,trivial⟩ k21.1 k21.2.1 k21.2.2 rfl rfl rfl ⟨by decide,by decide,by decide,by decide⟩<|.ic rfl rfl aA (af e20).1 (by have:=dE e20;simpa using this)<|.JF (M:=v13) (s2:=4000025) (bn e20) rfl rfl rfl rfl rfl rfl ⟨by decide,by decide,by decide⟩ rfl aC<|.nil) rfl ?_;obtain⟨v22,e23,h⟩:=bind_some h;obtain⟨v24,e25,h⟩:=bind_some h;obtain⟨v26,e27,h⟩:=bind_some h;refine .c_ cf (.mv rfl<|.mv rfl<|.ic rfl rfl aA (af e23).1 (by have:=dE e23;simpa using this)<|.jl (bn e23) rfl rfl rfl rfl aC<|.mv rfl<|.mv rfl<|.ar rfl rfl rfl<|.ag (kK e25) ⟨rfl,trivial⟩ trivial trivial<|.lQ rfl rfl rfl (af e23).2 aV (af e27).1 (dE e27) rfl<|.xr v24 rfl rfl rfl (af e23).2 (bn e27) ae rfl rfl rfl<|.nil) rfl (by kernel_rfl) (Ok.on ?_);refine .region (.ar rfl rfl rfl<|.mv rfl<|.nil) rfl (fun _ _ hs=>⟨((IntKind.i64.wrap (v12+1)),((v13.set v12.toNat (v19++List.replicate v3.toNat (0:Rat))).set v12.toNat (v22.set (IntKind.i64.wrap (v3+v12)).toNat v24))),(sj h),hs.kz (fun r=>match r with|3000025=>4000025|r=>r) (.r rfl rfl<|.p rfl (.Gi (r:=25))<|.r rfl rfl<|.r rfl rfl<|trivial) (.p rfl (.cb (s:=3000025))<|.r rfl rfl<|trivial) rfl rfl rfl⟩)
    ·replace h:=aa c18 h;refine .cq rfl c18 ?_;refine .exit (fun a w hs=>⟨_,(sj h),fun e=>by subst e;have h:=ho2;exact aS (⟨v13,(sj h),hs.sub (.of rfl) (.of rfl) rfl rfl⟩)⟩)
   ·rintro _ rfl
    try dsimp only
    obtain⟨o30,hp31,h⟩:=bind_some h;refine .cc (fun i=>o30=Ex.cd i) (fun(i:(List (List Rat)))=>[(5,D.int .i64 v3),(7,D.own 25)]) (fun(i:(List (List Rat)))=>[(25,Hp.cb ak.rat 68 3000051 ([])),(3000051,Hp.store ak.rat 28 i)]) ?_ ?_
    ·have ho1:=h;have h:=hp31;refine .fH 7 rfl rfl rfl ?_;obtain⟨⟨v32,v33⟩,e34,h⟩:=bind_some h;refine .al (.mv rfl<|.ag (Hi:=[(25,Hp.cb ak.rat 68 3000025 ([])),(3000025,Hp.store ak.rat 28 v29)]) (Ho:=[(25,Hp.cb ak.rat 68 3000051 ([])),(3000051,Hp.store ak.rat 28 v32),(3000025,Hp.dead)]) (d:=ai (ak.int .i64) v33) (ds:=[D.sl 25 v29.length]) (.zu (wz e34) (fun r=>match r with|0=>25|400=>3000025|700=>3000051|r=>r) (fun r=>match r with|25=>0|3000025=>400|3000051=>700|r=>r) rfl (.p rfl (.cb (s:=400))<|.r rfl rfl<|trivial) rfl ⟨.Gi (r:=0),trivial⟩ (.p rfl (.cb (s:=3000051))<|.r rfl rfl<|.r rfl rfl<|trivial) rfl (.refl rfl) rfl rfl rfl rfl rfl) ⟨rfl,trivial⟩ ⟨rfl,rfl,trivial⟩ ⟨rfl,trivial⟩<|.aq rfl<|.nil) rfl ?_;by_cases c35:(decide (v3>0))=true
     ·replace h:=ab c35 h;obtain⟨v36,e37,h⟩:=bind_some h;refine .al (.mv rfl<|.cm rfl rfl rfl<|.mv rfl<|.gy c35<|.mv rfl<|.gy c35<|.mv rfl<|.gy c35<|.ar rfl rfl rfl<|.gy c35<|.ll rfl rfl dX (af e37).1 (af e37).2<|.gy c35<|.i6 rfl dQ<|.gy c35<|.mv rfl<|.gy c35<|.ar rfl rfl rfl<|.gy c35<|.cm rfl rfl rfl<|.aX rfl c35 rfl<|.nil) rfl ?_;by_cases c38:(v36 !=(IntKind.i64.wrap (v3-1)))=true
      ·replace h:=ab c38 h;refine .cl rfl c38 ?_;refine .al (.aq rfl<|.aq rfl<|.nil) rfl ?_;cases h;have h:=ho1;cases h;refine .aO (fun _ _ hb=>hb) rfl (.cons (.tmp rfl) (.t1 (.tmp rfl))) (.ig ⟨.jF _,.refl _,trivial⟩) trivial trivial
      ·replace h:=aa c38 h;refine .cq rfl c38 ?_;refine .skip (fun _ _ hs=>⟨v32,(sj h),hs.sub (.k rfl<|.p rfl .sl<|trivial) (.of rfl) rfl rfl⟩)
     ·replace h:=aa c35 h;refine .al (.mv rfl<|.cm rfl rfl rfl<|.mv rfl<|.gm c35<|.gm c35<|.gm c35<|.gm c35<|.gm c35<|.gm c35<|.gm c35<|.gm c35<|.aT rfl c35 rfl<|.nil) rfl ?_;refine .cq rfl (by decide) ?_;refine .skip (fun _ _ hs=>⟨v32,(sj h),hs.sub (.k rfl<|.p rfl .sl<|trivial) (.of rfl) rfl rfl⟩)
    ·rintro v39 rfl
     try dsimp only
     obtain⟨v57,hp41,h⟩:=bind_some h;refine .cc (fun i=>v57=i) (fun(i:(List (List Rat)))=>[(7,D.own 25)]) (fun(i:(List (List Rat)))=>[(25,Hp.cb ak.rat 68 3000051 ([])),(3000051,Hp.store ak.rat 28 i)]) ?_ ?_
     ·have ho1:=h;have h:=hp41;refine .fH 7 rfl rfl rfl ?_;refine .al (.mv rfl<|.uW rfl bA<|.mv rfl<|.nil) rfl ?_;obtain⟨o44,hl45,h⟩:=bind_some h;have ho2:=h;refine .block (.bU (fun(s:Int×(List (List Rat)))=>[(5,D.int .i64 v3),(7,D.own 25),(65,D.int .i64 (v39.length:Int)),(66,D.int .i64 s.1)]) (fun(s:Int×(List (List Rat)))=>[(25,Hp.cb ak.rat 68 3000051 ([])),(3000051,Hp.store ak.rat 28 s.2)]) hl45 (.k rfl<|.p rfl .sl<|.k rfl<|.k rfl<|trivial) (.of rfl) rfl rfl ?_);rintro⟨v42,v43⟩ st46 hb47;have h:fv v3 v39 v42 v43=some st46:=hb47;unfold fv at h
      try dsimp only
      refine .al (.cm rfl rfl rfl<|.nil) rfl ?_;refine .sq ?_;by_cases c48:(decide (v42<(v39.length:Int)))=true
      ·replace h:=ab c48 h;refine .cl rfl c48 ?_;refine .skip (Ok.on ?_);refine .sq ?_;refine .block ?_;refine .al (.mv rfl<|.aq rfl<|.nil) rfl ?_;refine .fH 7 rfl rfl rfl ?_;obtain⟨v49,e50,h⟩:=bind_some h;obtain⟨k51,h⟩:=av h;obtain⟨v52,e53,h⟩:=bind_some h;obtain⟨v54,e55,h⟩:=bind_some h;refine .region (.mv rfl<|.mv rfl<|.mv rfl<|.mv rfl<|.ic rfl rfl aA (af e50).1 (by have:=dE e50;simpa using this)<|.jl (bn e50) rfl rfl rfl rfl aC<|.mv rfl<|.JE rfl rfl rfl (af e50).2 aV k51.1 k51.2 rfl<|.ag (Hi:=[(3000051,Hp.store ak.rat 28 v43)]) (Ho:=[(3000051,Hp.store ak.rat 28 v43),(77,aY ak.rat 28 v52)]) (d:=D.own 77) (ds:=[D.mv 3000051 v42.toNat v3.toNat 3]) (.zu (xL e53) (fun r=>match r with|400=>3000051|7=>77|r=>r) (fun r=>match r with|3000051=>400|77=>7|r=>r) rfl (.r rfl rfl trivial) rfl ⟨.mv (s:=400),trivial⟩ (.r rfl rfl<|.r rfl rfl<|trivial) rfl (.own (r:=77)) rfl rfl rfl rfl rfl) ⟨rfl,trivial⟩ ⟨rfl,trivial⟩ ⟨rfl,trivial⟩<|.ic rfl rfl aA (af e55).1 (by have:=dE e55;simpa using this)<|.Jf (M:=v43) (s2:=3000025) (bn e55) rfl rfl rfl rfl rfl rfl ⟨by decide,by decide,by decide⟩ rfl aC<|.nil) rfl (Ok.on ?_);refine .region (.ar rfl rfl rfl<|.mv rfl<|.nil) rfl (fun _ _ hs=>⟨((IntKind.i64.wrap (v42+1)),(v43.set v42.toNat v52)),(sj h),hs.kz (fun r=>match r with|3000051=>3000025|r=>r) (.r rfl rfl<|.p rfl (.Gi (r:=25))<|.r rfl rfl<|.r rfl rfl<|trivial) (.p rfl (.cb (s:=3000051))<|.r rfl rfl<|trivial) rfl rfl rfl⟩)
      ·replace h:=aa c48 h;refine .cq rfl c48 ?_;refine .exit (fun a w hs=>⟨_,(sj h),fun e=>by subst e;have h:=ho2;exact aS (⟨v43,(sj h),hs.sub (.of rfl) (.of rfl) rfl rfl⟩)⟩)
     ·rintro _ rfl
      try dsimp only
      refine .fH 7 rfl rfl rfl ?_;refine .al (.mv rfl<|.aq rfl<|.aq rfl<|.nil) rfl ?_;refine .sQ 2 (.own 25) rfl .sl ?_;refine .yL 2 rfl rfl rfl rfl rfl ?_;cases h;refine .aO (fun _ _ hb=>hb) rfl (.cons (.tmp rfl) (.t1 (.tmp rfl))) (.refl _) trivial trivial
def bO(a1:List (List Rat))(v10:Int)(v18:Int):Option (St Int (Ex Unit (Bool×(List Rat)×Int))):=(if(decide (v18<v10))=true then(ix a1 v10).bind fun v24=>(ix v24 v18).bind fun v26=>(ix a1 v18).bind fun v28=>(ix v28 v10).bind fun v30=>(lJ v26 v30).bind fun v32=>(if(v32 !=0)=true then some (St.done (Ex.ret (false,[],(2:Int))))else some (St.next (IntKind.i64.wrap (v18+1))))else some (St.done (Ex.cd ())))
def bR(a1:List (List Rat))(v10:Int):Option (St Int (Ex Unit (Bool×(List Rat)×Int))):=(if(decide (v10<(a1.length:Int)))=true then((Loop (fun(s:Int)=>bO a1 v10 s) 0).bind fun o19=>(match o19 with|Ex.cd ()=>some (Ex.cd ())|Ex.ret (r35,r36,r37)=>some (Ex.ret (r35,r36,r37)))).bind fun o16=>(match o16 with|Ex.cd ()=>some (St.next (IntKind.i64.wrap (v10+1)))|Ex.ret (r38,r39,r40)=>some (St.done (Ex.ret (r38,r39,r40))))else some (St.done (Ex.cd ())))
def dN(v3:Int)(v49:Int)(v50:List (List Rat))(v51:List (List Rat)):Option (St (Int×(List (List Rat))×(List (List Rat))) ((List (List Rat))×(List (List Rat)))):=(if(decide (v49<((([]:List (List Rat)).length+(List.replicate v3.toNat ([]:List Rat)).length):Int)))=true then cj ((0:Int)<=v3/\(56:Int)*v3<=281474976710656/\(v3:Int)<=9223372036854775807) (cj ((v49:Int)=(v51.length:Int)) ((ix v50 0).bind fun v59=>(ix (v51++[(List.replicate v3.toNat (0:Rat))]) v49).bind fun v61=>(fY 1).bind fun v63=>(ix v61 v49).bind fun v65=>some (St.next ((IntKind.i64.wrap (v49+1)),v50.tail,((v51++[(List.replicate v3.toNat (0:Rat))]).set v49.toNat (v61.set v49.toNat v63))))))else some (St.done (v50,v51)))
def bz(v3:Int)(v74:Int)(v75:List (List Rat))(v95:Int)(v96:List (List Rat)):Option (St (Int×(List (List Rat))) (Ex (List (List Rat)) (Bool×(List Rat)×Int))):=(if(decide (v95<v3))=true then((ix v75 v95).bind fun v104=>(ix v104 v74).bind fun v106=>(cW v106).bind fun v108=>(if(v108==0)=true then some (Ex.cd v96)else(ix v75 v74).bind fun v111=>(ix v111 v74).bind fun v113=>(cW v113).bind fun v115=>(if(v115==0)=true then(ix v75 v95).bind fun v118=>(ix v118 v95).bind fun v120=>(fY 1).bind fun v122=>(jj v120 v122).bind fun v124=>(ix v75 v95).bind fun v126=>(ix v126 v74).bind fun v128=>(ix v75 v95).bind fun v130=>(ix v130 v74).bind fun v132=>(jj v128 v132).bind fun v134=>(fV v124 v134).bind fun v136=>(pg v136).bind fun v138=>(ix v96 v95).bind fun v140=>(ix v96 v74).bind fun v142=>(k_ v95 v74 v138 v96).bind fun v144=>some (Ex.ret (false,v144,(0:Int)))else(ix v75 v95).bind fun v146=>(ix v146 v74).bind fun v148=>(ix v75 v74).bind fun v150=>(ix v150 v74).bind fun v152=>(fV v148 v152).bind fun v154=>(pg v154).bind fun v156=>(ix v96 v95).bind fun v158=>(ix v96 v74).bind fun v160=>(k_ v95 v74 v156 v96).bind fun v162=>(ix v96 v95).bind fun v164=>some (Ex.cd (v96.set v95.toNat v162))))).bind fun o102=>(match o102 with|Ex.cd v166=>some (St.next ((IntKind.i64.wrap (v95+1)),v166))|Ex.ret (r167,r168,r169)=>some (St.done (Ex.ret (r167,r168,r169))))else some (St.done (Ex.cd v96)))
def g_(v3:Int)(v74:Int)(v175:Int)(v199:Rat)(v201:Int)(v202:List (List Rat)):Option (St (Int×(List (List Rat))) (List (List Rat))):=(if(decide (v201<v3))=true then(ix v202 v175).bind fun v208=>(ix v202 v175).bind fun v210=>(ix v210 v201).bind fun v212=>(ix v202 v74).bind fun v214=>(ix v214 v201).bind fun v216=>(fh v199 v216).bind fun v218=>(ks v212 v218).bind fun v220=>(ix v208 v201).bind fun v222=>some (St.next ((IntKind.i64.wrap (v201+1)),(v202.set v175.toNat (v208.set v201.toNat v220))))else some (St.done v202))
def cB(v3:Int)(v74:Int)(v175:Int)(v176:List (List Rat)):Option (St (Int×(List (List Rat))) (List (List Rat))):=(if(decide (v175<v3))=true then(ix v176 v74).bind fun v182=>(ix v182 v74).bind fun v184=>(cW v184).bind fun v186=>(if(v186 !=0)=true then((ix v176 v175).bind fun v191=>(ix v191 v74).bind fun v193=>(ix v176 v74).bind fun v195=>(ix v195 v74).bind fun v197=>(fV v193 v197).bind fun v199=>(Loop (fun(s:Int×(List (List Rat)))=>g_ v3 v74 v175 v199 s.1 s.2) ((IntKind.i64.wrap (v74+1)),v176)).bind fun v224=>some (v224)).bind fun v225=>some (St.next ((IntKind.i64.wrap (v175+1)),v225))else some (St.done v176))else some (St.done v176))
def bh(v3:Int)(v74:Int)(v75:List (List Rat))(v76:List (List Rat)):Option (St (Int×(List (List Rat))×(List (List Rat))) (Ex Unit (Bool×(List Rat)×Int))):=(if(decide (v74<v3))=true then((ix v75 v74).bind fun v84=>(ix v84 v74).bind fun v86=>(cW v86).bind fun v88=>(if(decide (v88<0))=true then(ix v76 v74).bind fun v91=>some (Ex.ret (false,v91,(0:Int)))else((Loop (fun(s:Int×(List (List Rat)))=>bz v3 v74 v75 s.1 s.2) ((IntKind.i64.wrap (v74+1)),v76)).bind fun o97=>(match o97 with|Ex.cd v170=>some (Ex.cd v170)|Ex.ret (r171,r172,r173)=>some (Ex.ret (r171,r172,r173)))).bind fun o93=>(match o93 with|Ex.cd v174=>(Loop (fun(s:Int×(List (List Rat)))=>cB v3 v74 s.1 s.2) ((IntKind.i64.wrap (v74+1)),v75)).bind fun v226=>some (Ex.cd (v226,v174))|Ex.ret (r227,r228,r229)=>some (Ex.ret (r227,r228,r229))))).bind fun o82=>(match o82 with|Ex.cd (v230,v231)=>some (St.next ((IntKind.i64.wrap (v74+1)),v230,v231))|Ex.ret (r232,r233,r234)=>some (St.done (Ex.ret (r232,r233,r234))))else some (St.done (Ex.cd ())))
def dm(a1:List (List Rat)):Option (Bool×(List Rat)×Int):=(gl a1).bind fun(v2,v3,v4)=>(if(!v4)=true then some (false,[],(2:Int))else(if(v2 !=v3)=true then some (false,[],(2:Int))else((Loop (fun(s:Int)=>bR a1 s) 0).bind fun o11=>(match o11 with|Ex.cd ()=>some (Ex.cd ())|Ex.ret (r41,r42,r43)=>some (Ex.ret (r41,r42,r43)))).bind fun o8=>(match o8 with|Ex.cd ()=>(gB a1).bind fun v44=>cj ((0:Int)<=v3/\(24:Int)*v3<=281474976710656/\(v3:Int)<=9223372036854775807) (((Loop (fun(s:Int×(List (List Rat))×(List (List Rat)))=>dN v3 s.1 s.2.1 s.2.2) (0,(List.replicate v3.toNat ([]:List Rat)),([]:List (List Rat)))).bind fun(v67,v68)=>some ((v67,v68))).bind fun(v69,v70)=>cj (v69=[]) (((Loop (fun(s:Int×(List (List Rat))×(List (List Rat)))=>bh v3 s.1 s.2.1 s.2.2) (0,v44,v70)).bind fun o77=>(match o77 with|Ex.cd ()=>some (Ex.cd ())|Ex.ret (r235,r236,r237)=>some (Ex.ret (r235,r236,r237)))).bind fun o72=>(match o72 with|Ex.cd ()=>some (true,[],(0:Int))|Ex.ret (r238,r239,r240)=>some (r238,r239,r240))))|Ex.ret (r241,r242,r243)=>some (r241,r242,r243))))
theorem tK{a1:List (List Rat)}{r244:Bool}{r245:List Rat}{r246:Int}(h:dm a1=some (r244,r245,r246)):bf PP 129 [] [ai (ak.slice ak.rat) a1] [] (D.ig [D.bool r244,ai ak.rat r245,D.int .i64 r246]):=by
 unfold dm at h;refine .of Go.Proofs.Tryz.func129 rfl (by kernel_rfl) rfl rfl rfl rfl rfl rfl (fun A w0 L b=>?_);show Ok PP _ [(0,ai (ak.slice ak.rat) a1)] [] _ _;refine .al (.aq rfl<|.aq rfl<|.aq rfl<|.nil) rfl ?_;obtain⟨⟨v2,v3,v4⟩,e5,h⟩:=bind_some h;refine .al (.mv rfl<|.ag (lj e5) ⟨rfl,trivial⟩ trivial trivial<|.mv rfl<|.ext rfl rfl<|.ext rfl rfl<|.ext rfl rfl<|.aq rfl<|.aq rfl<|.aq rfl<|.nil) rfl ?_;refine .sq ?_;by_cases c6:(!v4)=true
 ·replace h:=ab c6 h;refine .al (.mv rfl<|.not rfl<|.mv rfl<|.gk c6<|.gk c6<|.gk c6<|.aX rfl c6 rfl<|.nil) rfl ?_;refine .cl rfl rfl ?_;refine .al (.aq rfl<|.aq rfl<|.aq rfl<|.nil) rfl ?_;cases h;refine .aO (fun _ _ hb=>hb) rfl (.cons (.tmp rfl) (.cons (.tmp rfl) (.t1 (.tmp rfl)))) (.ig ⟨.refl _,.jF _,.refl _,trivial⟩) trivial trivial
 ·replace h:=aa c6 h;refine .al (.mv rfl<|.not rfl<|.mv rfl<|.gz c6<|.mv rfl<|.gz c6<|.mv rfl<|.gz c6<|.cm rfl rfl rfl<|.aT rfl c6 rfl<|.nil) rfl ?_;by_cases c7:(v2 !=v3)=true
  ·replace h:=ab c7 h;refine .cl rfl c7 ?_;refine .al (.aq rfl<|.aq rfl<|.aq rfl<|.nil) rfl ?_;cases h;refine .aO (fun _ _ hb=>hb) rfl (.cons (.tmp rfl) (.cons (.tmp rfl) (.t1 (.tmp rfl)))) (.ig ⟨.refl _,.jF _,.refl _,trivial⟩) trivial trivial
  ·replace h:=aa c7 h;refine .cq rfl c7 ?_;refine .skip (Ok.on ?_);obtain⟨o8,hp9,h⟩:=bind_some h;refine .cc (fun i=>o8=Ex.cd i) (fun(i:Unit)=>[(0,ai (ak.slice ak.rat) a1),(6,D.int .i64 v3)]) (fun(i:Unit)=>[]) ?_ ?_
   ·have ho1:=h;have h:=hp9;refine .al (.mv rfl<|.ec rfl bA<|.mv rfl<|.nil) rfl ?_;obtain⟨o11,hl12,h⟩:=bind_some h;have ho2:=h;refine .block (.bU (fun(s:Int)=>[(0,ai (ak.slice ak.rat) a1),(6,D.int .i64 v3),(34,D.int .i64 (a1.length:Int)),(35,D.int .i64 s)]) (fun(s:Int)=>[]) hl12 (.of rfl) trivial rfl rfl ?_);rintro v10 st13 hb14;have h:bR a1 v10=some st13:=hb14;unfold bR at h
    try dsimp only
    refine .al (.cm rfl rfl rfl<|.nil) rfl ?_;refine .sq ?_;by_cases c15:(decide (v10<(a1.length:Int)))=true
    ·replace h:=ab c15 h;refine .cl rfl c15 ?_;refine .skip (Ok.on ?_);obtain⟨o16,hp17,h⟩:=bind_some h;refine .cc (fun i=>o16=Ex.cd i) (fun(i:Unit)=>[(0,ai (ak.slice ak.rat) a1),(6,D.int .i64 v3),(34,D.int .i64 (a1.length:Int)),(35,D.int .i64 v10)]) (fun(i:Unit)=>[]) ?_ ?_
     ·have ho3:=h;have h:=hp17;refine .block ?_;refine .al (.mv rfl<|.aq rfl<|.nil) rfl ?_;refine .al (.mv rfl<|.mv rfl<|.nil) rfl ?_;obtain⟨o19,hl20,h⟩:=bind_some h;have ho4:=h;refine .block (.bU (fun(s:Int)=>[(0,ai (ak.slice ak.rat) a1),(6,D.int .i64 v3),(8,D.int .i64 v10),(34,D.int .i64 (a1.length:Int)),(35,D.int .i64 v10),(38,D.int .i64 v10),(39,D.int .i64 s)]) (fun(s:Int)=>[]) hl20 (.of rfl) trivial rfl rfl ?_);rintro v18 st21 hb22;have h:bO a1 v10 v18=some st21:=hb22;unfold bO at h
      try dsimp only
      refine .al (.cm rfl rfl rfl<|.nil) rfl ?_;refine .sq ?_;by_cases c23:(decide (v18<v10))=true
      ·replace h:=ab c23 h;refine .cl rfl c23 ?_;refine .skip (Ok.on ?_);refine .sq ?_;refine .block ?_;refine .al (.mv rfl<|.aq rfl<|.nil) rfl ?_;obtain⟨v24,e25,h⟩:=bind_some h;obtain⟨v26,e27,h⟩:=bind_some h;obtain⟨v28,e29,h⟩:=bind_some h;obtain⟨v30,e31,h⟩:=bind_some h;obtain⟨v32,e33,h⟩:=bind_some h;refine .cZ cf (.mv rfl<|.mv rfl<|.ll rfl rfl aA (af e25).1 (af e25).2<|.i6 rfl aC<|.mv rfl<|.ll rfl rfl aV (af e27).1 (af e27).2<|.Cy (l:=qC (v26)) rfl ae rfl<|.mv rfl<|.mv rfl<|.ll rfl rfl aA (af e29).1 (af e29).2<|.i6 rfl aC<|.mv rfl<|.ll rfl rfl aV (af e31).1 (af e31).2<|.Cy (l:=qC (v30)) rfl ae rfl<|.ag (vY e33) ⟨rfl,rfl,trivial⟩ trivial trivial<|.cm rfl rfl rfl<|.nil) rfl (by kernel_rfl) ?_;by_cases c34:(v32 !=0)=true
       ·replace h:=ab c34 h;refine .cl rfl c34 ?_;refine .al (.aq rfl<|.aq rfl<|.aq rfl<|.nil) rfl ?_;refine .aO (Hi:=[]) (Ho:=[]) (b:=b) (fn:=Go.Proofs.Tryz.f129) (d:=D.ig [D.bool false,ai ak.rat ([]),D.int .i64 2]) (fun _ _ hb=>by exact⟨_,(sj h),fun e=>by subst e;have h:=ho4;cases h;have h:=ho3;exact⟨_,(sj h),fun e=>by subst e;have h:=ho2;cases h;have h:=ho1;cases h;exact hb⟩⟩) rfl (.cons (.tmp rfl) (.cons (.tmp rfl) (.t1 (.tmp rfl)))) (.ig ⟨.refl _,.jF _,.refl _,trivial⟩) trivial trivial
       ·replace h:=aa c34 h;refine .cq rfl c34 ?_;refine .skip (Ok.on ?_);refine .region (.ar rfl rfl rfl<|.mv rfl<|.nil) rfl (fun _ _ hs=>⟨(IntKind.i64.wrap (v18+1)),(sj h),hs.sub (.of rfl) trivial rfl rfl⟩)
      ·replace h:=aa c23 h;refine .cq rfl c23 ?_;refine .exit (fun a w hs=>⟨_,(sj h),fun e=>by subst e;have h:=ho4;exact aS (⟨(),(sj h),hs.sub (.of rfl) trivial rfl rfl⟩)⟩)
     ·rintro⟨⟩ rfl
      try dsimp only
      refine .region (.ar rfl rfl rfl<|.mv rfl<|.nil) rfl (fun _ _ hs=>⟨(IntKind.i64.wrap (v10+1)),(sj h),hs.sub (.of rfl) trivial rfl rfl⟩)
    ·replace h:=aa c15 h;refine .cq rfl c15 ?_;refine .exit (fun a w hs=>⟨_,(sj h),fun e=>by subst e;have h:=ho2;exact aS (⟨(),(sj h),hs.sub (.of rfl) trivial rfl rfl⟩)⟩)
   ·rintro⟨⟩ rfl
    try dsimp only
    obtain⟨v44,e45,h⟩:=bind_some h;refine .al (.mv rfl<|.ag (Hi:=[]) (Ho:=[(61,Hp.cb ak.rat 68 3000061 ([])),(3000061,Hp.store ak.rat 28 v44)]) (d:=D.own 61) (ds:=[ai (ak.slice ak.rat) a1]) (.zu (np e45) (fun r=>match r with|6=>61|4000006=>3000061|r=>r) (fun r=>match r with|61=>6|3000061=>4000006|r=>r) rfl trivial rfl ⟨.refl rfl,trivial⟩ (.p rfl (.cb (s:=3000061))<|.r rfl rfl<|trivial) rfl (.own (r:=61)) rfl rfl rfl rfl rfl) ⟨rfl,trivial⟩ trivial ⟨rfl,rfl,trivial⟩<|.aq rfl<|.nil) rfl ?_;obtain⟨k46,h⟩:=av h;refine .al (.mv rfl<|.Ju (e:=(ak.slice ak.rat)) ([]) rfl rfl jt rfl ⟨.jF _,trivial⟩ k46.1 k46.2.1 k46.2.2 rfl<|.aq rfl<|.nil) rfl ?_;obtain⟨o47,hp48,h⟩:=bind_some h;refine .cc (fun i=>o47=i) (fun(i:(List (List Rat))×(List (List Rat)))=>[(6,D.int .i64 v3),(10,D.own 61),(11,D.own 63)]) (fun(i:(List (List Rat))×(List (List Rat)))=>[(61,Hp.cb ak.rat 68 3000061 ([])),(3000061,Hp.store ak.rat 28 v44),(63,Hp.cb ak.rat 68 4000063 i.1),(4000063,Hp.store ak.rat 28 i.2)]) ?_ ?_
    ·have ho1:=h;have h:=hp48;refine .Kg 63 4000063 28 rfl rfl ?_;refine .Hd 11 rfl rfl rfl ?_;refine .al (.mv rfl<|.uW rfl bA<|.mv rfl<|.nil) rfl ?_;obtain⟨o52,hl53,h⟩:=bind_some h;have ho2:=h;refine .block (.bU (fun(s:Int×(List (List Rat))×(List (List Rat)))=>[(6,D.int .i64 v3),(10,D.own 61),(11,D.own 63),(65,D.int .i64 ((([]:List (List Rat)).length+(List.replicate v3.toNat ([]:List Rat)).length):Int)),(66,D.int .i64 s.1)]) (fun(s:Int×(List (List Rat))×(List (List Rat)))=>[(61,Hp.cb ak.rat 68 3000061 ([])),(3000061,Hp.store ak.rat 28 v44),(63,Hp.cb ak.rat 68 4000063 s.2.1),(4000063,Hp.store ak.rat 28 s.2.2)]) hl53 (.k rfl<|.k rfl<|.p rfl .sl<|.k rfl<|.k rfl<|trivial) (.of rfl) rfl rfl ?_);rintro⟨v49,v50,v51⟩ st54 hb55;have h:dN v3 v49 v50 v51=some st54:=hb55;unfold dN at h
     try dsimp only
     refine .al (.cm rfl rfl rfl<|.nil) rfl ?_;refine .sq ?_;by_cases c56:(decide (v49<((([]:List (List Rat)).length+(List.replicate v3.toNat ([]:List Rat)).length):Int)))=true
     ·replace h:=ab c56 h;refine .cl rfl c56 ?_;refine .skip (Ok.on ?_);refine .sq ?_;refine .block ?_;refine .al (.mv rfl<|.aq rfl<|.nil) rfl ?_;refine .Hd 11 rfl rfl rfl ?_;obtain⟨k57,h⟩:=av h;obtain⟨k58,h⟩:=av h;obtain⟨v59,e60,h⟩:=bind_some h;refine .al (.mv rfl<|.mv rfl<|.mv rfl<|.Ju (e:=ak.rat) 0 rfl rfl eX rfl ⟨lY,lZ,l4,trivial⟩ k57.1 k57.2.1 k57.2.2 rfl<|.ic rfl rfl aA (by omega) (by have:=bn e60;omega)<|.Jm (s2:=3000063) k58 (af e60).2 rfl rfl rfl rfl rfl rfl ⟨by decide,by decide,by decide⟩ rfl aC<|.nil) rfl ?_;obtain⟨v61,e62,h⟩:=bind_some h;obtain⟨v63,e64,h⟩:=bind_some h;obtain⟨v65,e66,h⟩:=bind_some h;refine .c_ cf (.mv rfl<|.mv rfl<|.ic rfl rfl aA (af e62).1 (by have:=bn e60;omega)<|.jl (bn e62) rfl rfl rfl rfl aC<|.mv rfl<|.ag (kK e64) ⟨rfl,trivial⟩ trivial trivial<|.lQ rfl rfl rfl (af e62).2 aV (af e66).1 (dE e66) rfl<|.xr v63 rfl rfl rfl (af e62).2 (bn e66) ae rfl rfl rfl<|.nil) rfl (by kernel_rfl) (Ok.on ?_);refine .region (.ar rfl rfl rfl<|.mv rfl<|.nil) rfl (fun _ _ hs=>⟨((IntKind.i64.wrap (v49+1)),v50.tail,((v51++[(List.replicate v3.toNat (0:Rat))]).set v49.toNat (v61.set v49.toNat v63))),(sj h),hs.kz (fun r=>match r with|4000063=>3000063|r=>r) (.r rfl rfl<|.p rfl (.own (r:=61))<|.p rfl (.Gi (r:=63))<|.r rfl rfl<|.r rfl rfl<|trivial) (.p rfl (.cb (s:=3000061))<|.r rfl rfl<|.p rfl (.cb (s:=4000063))<|.r rfl rfl<|trivial) rfl rfl rfl⟩)
     ·replace h:=aa c56 h;refine .cq rfl c56 ?_;refine .exit (fun a w hs=>⟨_,(sj h),fun e=>by subst e;have h:=ho2;exact aS (⟨(v50,v51),(sj h),hs.sub (.of rfl) (.of rfl) rfl rfl⟩)⟩)
    ·rintro⟨v69,v70⟩ rfl
     try dsimp only
     obtain⟨k71,h⟩:=av h;subst k71;obtain⟨o72,hp73,h⟩:=bind_some h;refine .cc (fun i=>o72=Ex.cd i) (fun(i:Unit)=>[]) (fun(i:Unit)=>[]) ?_ ?_
     ·have ho1:=h;have h:=hp73;refine .al (.mv rfl<|.mv rfl<|.nil) rfl ?_;obtain⟨o77,hl78,h⟩:=bind_some h;have ho2:=h;refine .block (.bU (fun(s:Int×(List (List Rat))×(List (List Rat)))=>[(6,D.int .i64 v3),(10,D.own 61),(11,D.own 63),(82,D.int .i64 v3),(83,D.int .i64 s.1)]) (fun(s:Int×(List (List Rat))×(List (List Rat)))=>[(61,Hp.cb ak.rat 68 3000061 ([])),(3000061,Hp.store ak.rat 28 s.2.1),(63,Hp.cb ak.rat 68 4000063 ([])),(4000063,Hp.store ak.rat 28 s.2.2)]) hl78 (.of rfl) (.of rfl) rfl rfl ?_);rintro⟨v74,v75,v76⟩ st79 hb80;have h:bh v3 v74 v75 v76=some st79:=hb80;unfold bh at h
      try dsimp only
      refine .al (.cm rfl rfl rfl<|.nil) rfl ?_;refine .sq ?_;by_cases c81:(decide (v74<v3))=true
      ·replace h:=ab c81 h;refine .cl rfl c81 ?_;refine .skip (Ok.on ?_);obtain⟨o82,hp83,h⟩:=bind_some h;refine .cc (fun i=>o82=Ex.cd i) (fun(i:(List (List Rat))×(List (List Rat)))=>[(6,D.int .i64 v3),(10,D.own 61),(11,D.own 63),(82,D.int .i64 v3),(83,D.int .i64 v74)]) (fun(i:(List (List Rat))×(List (List Rat)))=>[(61,Hp.cb ak.rat 68 3000061 ([])),(3000061,Hp.store ak.rat 28 i.1),(63,Hp.cb ak.rat 68 4000063 ([])),(4000063,Hp.store ak.rat 28 i.2)]) ?_ ?_
       ·have ho3:=h;have h:=hp83;refine .block ?_;refine .al (.mv rfl<|.aq rfl<|.nil) rfl ?_;refine .sq ?_;refine .fH 10 rfl rfl rfl ?_;obtain⟨v84,e85,h⟩:=bind_some h;obtain⟨v86,e87,h⟩:=bind_some h;obtain⟨v88,e89,h⟩:=bind_some h;refine .al (.mv rfl<|.mv rfl<|.ic rfl rfl aA (af e85).1 (by have:=dE e85;simpa using this)<|.jl (bn e85) rfl rfl rfl rfl aC<|.mv rfl<|.lQ rfl rfl rfl (af e85).2 aV (af e87).1 (dE e87) rfl<|.gJ rfl rfl (af e85).2 (af e87).2 ae rfl rfl<|.ag (iv e89) ⟨rfl,trivial⟩ trivial trivial<|.cm rfl rfl rfl<|.nil) rfl ?_;by_cases c90:(decide (v88<0))=true
        ·replace h:=ab c90 h;refine .cl rfl c90 ?_;refine .fH 11 rfl rfl rfl ?_;obtain⟨v91,e92,h⟩:=bind_some h;refine .cZ cf (.mv rfl<|.mv rfl<|.ic rfl rfl aA (af e92).1 (by have:=dE e92;simpa using this)<|.jl (bn e92) rfl rfl rfl rfl aC<|.aq rfl<|.aq rfl<|.aq rfl<|.nil) rfl (by kernel_rfl) ?_;refine .It 3 rfl rfl (af e92).2 rfl ?_;cases h;have h:=ho3;refine .aO (Hi:=[]) (Ho:=[]) (b:=b) (fn:=Go.Proofs.Tryz.f129) (d:=D.ig [D.bool false,ai ak.rat v91,D.int .i64 0]) (fun _ _ hb=>by exact⟨_,(sj h),fun e=>by subst e;have h:=ho2;cases h;have h:=ho1;cases h;exact hb⟩) rfl (.cons (.tmp rfl) (.cons (.tmp rfl) (.t1 (.tmp rfl)))) (.refl _) trivial trivial
        ·replace h:=aa c90 h;refine .cq rfl c90 ?_;refine .skip (Ok.on ?_);obtain⟨o93,hp94,h⟩:=bind_some h;refine .cc (fun i=>o93=Ex.cd i) (fun(i:(List (List Rat)))=>[(6,D.int .i64 v3),(10,D.own 61),(11,D.own 63),(13,D.int .i64 v74),(82,D.int .i64 v3),(83,D.int .i64 v74)]) (fun(i:(List (List Rat)))=>[(61,Hp.cb ak.rat 68 3000061 ([])),(3000061,Hp.store ak.rat 28 v75),(63,Hp.cb ak.rat 68 4000063 ([])),(4000063,Hp.store ak.rat 28 i)]) ?_ ?_
         ·have ho4:=h;have h:=hp94;refine .al (.mv rfl<|.ar rfl rfl rfl<|.aq rfl<|.nil) rfl ?_;obtain⟨o97,hl98,h⟩:=bind_some h;have ho5:=h;refine .block (.bU (fun(s:Int×(List (List Rat)))=>[(6,D.int .i64 v3),(10,D.own 61),(11,D.own 63),(13,D.int .i64 v74),(14,D.int .i64 s.1),(82,D.int .i64 v3),(83,D.int .i64 v74)]) (fun(s:Int×(List (List Rat)))=>[(61,Hp.cb ak.rat 68 3000061 ([])),(3000061,Hp.store ak.rat 28 v75),(63,Hp.cb ak.rat 68 4000063 ([])),(4000063,Hp.store ak.rat 28 s.2)]) hl98 (.k rfl<|.p rfl .sl<|.k rfl<|.k rfl<|.k rfl<|.k rfl<|.k rfl<|trivial) (.of rfl) rfl rfl ?_);rintro⟨v95,v96⟩ st99 hb100;have h:bz v3 v74 v75 v95 v96=some st99:=hb100;unfold bz at h
          try dsimp only
          refine .sq ?_;refine .al (.mv rfl<|.mv rfl<|.cm rfl rfl rfl<|.nil) rfl ?_;by_cases c101:(decide (v95<v3))=true
          ·replace h:=ab c101 h;refine .cl rfl c101 ?_;refine .skip (Ok.on ?_);obtain⟨o102,hp103,h⟩:=bind_some h;refine .cc (fun i=>o102=Ex.cd i) (fun(i:(List (List Rat)))=>[(6,D.int .i64 v3),(10,D.own 61),(11,D.own 63),(13,D.int .i64 v74),(14,D.int .i64 v95),(82,D.int .i64 v3),(83,D.int .i64 v74)]) (fun(i:(List (List Rat)))=>[(61,Hp.cb ak.rat 68 3000061 ([])),(3000061,Hp.store ak.rat 28 v75),(63,Hp.cb ak.rat 68 4000063 ([])),(4000063,Hp.store ak.rat 28 i)]) ?_ ?_
           ·have ho6:=h;have h:=hp103;refine .block ?_;refine .sq ?_;refine .fH 10 rfl rfl rfl ?_;obtain⟨v104,e105,h⟩:=bind_some h;obtain⟨v106,e107,h⟩:=bind_some h;obtain⟨v108,e109,h⟩:=bind_some h;refine .al (.mv rfl<|.mv rfl<|.ic rfl rfl aA (af e105).1 (by have:=dE e105;simpa using this)<|.jl (bn e105) rfl rfl rfl rfl aC<|.mv rfl<|.lQ rfl rfl rfl (af e105).2 aV (af e107).1 (dE e107) rfl<|.gJ rfl rfl (af e105).2 (af e107).2 ae rfl rfl<|.ag (iv e109) ⟨rfl,trivial⟩ trivial trivial<|.cm rfl rfl rfl<|.nil) rfl ?_;by_cases c110:(v108==0)=true
            ·replace h:=ab c110 h;refine .cl rfl c110 ?_;refine .exit (fun _ _ hs=>⟨v96,(sj h),hs.sub (.k rfl<|.p rfl .sl<|.k rfl<|.k rfl<|.k rfl<|.k rfl<|.k rfl<|trivial) (.of rfl) rfl rfl⟩)
            ·replace h:=aa c110 h;refine .cq rfl c110 ?_;refine .skip (Ok.on ?_);refine .sq ?_;obtain⟨v111,e112,h⟩:=bind_some h;obtain⟨v113,e114,h⟩:=bind_some h;obtain⟨v115,e116,h⟩:=bind_some h;refine .al (.mv rfl<|.mv rfl<|.ic rfl rfl aA (af e112).1 (by have:=dE e112;simpa using this)<|.jl (bn e112) rfl rfl rfl rfl aC<|.mv rfl<|.lQ rfl rfl rfl (af e112).2 aV (af e114).1 (dE e114) rfl<|.gJ rfl rfl (af e112).2 (af e114).2 ae rfl rfl<|.ag (iv e116) ⟨rfl,trivial⟩ trivial trivial<|.cm rfl rfl rfl<|.nil) rfl ?_;by_cases c117:(v115==0)=true
             ·replace h:=ab c117 h;refine .cl rfl c117 ?_;obtain⟨v118,e119,h⟩:=bind_some h;obtain⟨v120,e121,h⟩:=bind_some h;obtain⟨v122,e123,h⟩:=bind_some h;obtain⟨v124,e125,h⟩:=bind_some h;obtain⟨v126,e127,h⟩:=bind_some h;obtain⟨v128,e129,h⟩:=bind_some h;obtain⟨v130,e131,h⟩:=bind_some h;obtain⟨v132,e133,h⟩:=bind_some h;obtain⟨v134,e135,h⟩:=bind_some h;obtain⟨v136,e137,h⟩:=bind_some h;obtain⟨v138,e139,h⟩:=bind_some h;refine .cZ cf (.mv rfl<|.mv rfl<|.ic rfl rfl aA (af e119).1 (by have:=dE e119;simpa using this)<|.jl (bn e119) rfl rfl rfl rfl aC<|.mv rfl<|.lQ rfl rfl rfl (af e119).2 aV (af e121).1 (dE e121) rfl<|.gJ rfl rfl (af e119).2 (af e121).2 ae rfl rfl<|.ag (kK e123) ⟨rfl,trivial⟩ trivial trivial<|.ag (mL e125) ⟨rfl,rfl,trivial⟩ trivial trivial<|.mv rfl<|.mv rfl<|.ic rfl rfl aA (af e127).1 (by have:=dE e127;simpa using this)<|.jl (bn e127) rfl rfl rfl rfl aC<|.mv rfl<|.lQ rfl rfl rfl (af e127).2 aV (af e129).1 (dE e129) rfl<|.gJ rfl rfl (af e127).2 (af e129).2 ae rfl rfl<|.mv rfl<|.mv rfl<|.ic rfl rfl aA (af e131).1 (by have:=dE e131;simpa using this)<|.jl (bn e131) rfl rfl rfl rfl aC<|.mv rfl<|.lQ rfl rfl rfl (af e131).2 aV (af e133).1 (dE e133) rfl<|.gJ rfl rfl (af e131).2 (af e133).2 ae rfl rfl<|.ag (mL e135) ⟨rfl,rfl,trivial⟩ trivial trivial<|.ag (lh e137) ⟨rfl,rfl,trivial⟩ trivial trivial<|.ag (EL e139) ⟨rfl,trivial⟩ trivial trivial<|.fN (qC (0)) aI ⟨lY,lZ,l4,trivial⟩ rfl<|.cU (qC (v138)) rfl rfl rfl ae rfl rfl rfl<|.nil) rfl (by kernel_rfl) ?_;refine .fH 11 rfl rfl rfl ?_;obtain⟨v140,e141,h⟩:=bind_some h;obtain⟨v142,e143,h⟩:=bind_some h;obtain⟨v144,e145,h⟩:=bind_some h;refine .cZ cf (.mv rfl<|.mv rfl<|.ic rfl rfl aA (af e141).1 (by have:=dE e141;simpa using this)<|.jl (bn e141) rfl rfl rfl rfl aC<|.mv rfl<|.mv rfl<|.ic rfl rfl aA (af e143).1 (by have:=dE e143;simpa using this)<|.jl (bn e143) rfl rfl rfl rfl aC<|.ck (qC (v138)) rfl rfl ae rfl rfl<|.ag (Hi:=[(4000063,Hp.store ak.rat 28 v96)]) (Ho:=[(4000063,Hp.store ak.rat 28 v96),(159,aY ak.rat 28 v144)]) (d:=D.own 159) (ds:=[D.mr 4000063 v95.toNat,D.mr 4000063 v74.toNat,qD v138]) (.zu (vB e145) (fun r=>match r with|400=>4000063|10=>159|r=>r) (fun r=>match r with|4000063=>400|159=>10|r=>r) rfl (.r rfl rfl trivial) rfl ⟨.mr (s:=400),.mr (s:=400),.refl rfl,trivial⟩ (.r rfl rfl<|.r rfl rfl<|trivial) rfl (.own (r:=159)) rfl rfl rfl rfl rfl) ⟨rfl,rfl,rfl,trivial⟩ ⟨rfl,trivial⟩ ⟨rfl,trivial⟩<|.aq rfl<|.aq rfl<|.aq rfl<|.nil) rfl (by kernel_rfl) ?_;refine .mD 3 rfl rfl rfl ?_;cases h;have h:=ho6;refine .aO (Hi:=[]) (Ho:=[]) (b:=b) (fn:=Go.Proofs.Tryz.f129) (d:=D.ig [D.bool false,ai ak.rat v144,D.int .i64 0]) (fun _ _ hb=>by exact⟨_,(sj h),fun e=>by subst e;have h:=ho5;cases h;have h:=ho4;cases h;have h:=ho3;exact⟨_,(sj h),fun e=>by subst e;have h:=ho2;cases h;have h:=ho1;cases h;exact hb⟩⟩) rfl (.cons (.tmp rfl) (.cons (.tmp rfl) (.t1 (.tmp rfl)))) (.refl _) trivial trivial
             ·replace h:=aa c117 h;refine .cq rfl c117 ?_;refine .skip (Ok.on ?_);obtain⟨v146,e147,h⟩:=bind_some h;obtain⟨v148,e149,h⟩:=bind_some h;obtain⟨v150,e151,h⟩:=bind_some h;obtain⟨v152,e153,h⟩:=bind_some h;obtain⟨v154,e155,h⟩:=bind_some h;obtain⟨v156,e157,h⟩:=bind_some h;refine .cZ cf (.mv rfl<|.mv rfl<|.ic rfl rfl aA (af e147).1 (by have:=dE e147;simpa using this)<|.jl (bn e147) rfl rfl rfl rfl aC<|.mv rfl<|.lQ rfl rfl rfl (af e147).2 aV (af e149).1 (dE e149) rfl<|.gJ rfl rfl (af e147).2 (af e149).2 ae rfl rfl<|.mv rfl<|.mv rfl<|.ic rfl rfl aA (af e151).1 (by have:=dE e151;simpa using this)<|.jl (bn e151) rfl rfl rfl rfl aC<|.mv rfl<|.lQ rfl rfl rfl (af e151).2 aV (af e153).1 (dE e153) rfl<|.gJ rfl rfl (af e151).2 (af e153).2 ae rfl rfl<|.ag (lh e155) ⟨rfl,rfl,trivial⟩ trivial trivial<|.ag (EL e157) ⟨rfl,trivial⟩ trivial trivial<|.fN (qC (0)) aI ⟨lY,lZ,l4,trivial⟩ rfl<|.cU (qC (v156)) rfl rfl rfl ae rfl rfl rfl<|.nil) rfl (by kernel_rfl) ?_;refine .fH 11 rfl rfl rfl ?_;obtain⟨v158,e159,h⟩:=bind_some h;obtain⟨v160,e161,h⟩:=bind_some h;obtain⟨v162,e163,h⟩:=bind_some h;obtain⟨v164,e165,h⟩:=bind_some h;refine .c_ cf (.mv rfl<|.mv rfl<|.mv rfl<|.mv rfl<|.ic rfl rfl aA (af e159).1 (by have:=dE e159;simpa using this)<|.jl (bn e159) rfl rfl rfl rfl aC<|.mv rfl<|.mv rfl<|.ic rfl rfl aA (af e161).1 (by have:=dE e161;simpa using this)<|.jl (bn e161) rfl rfl rfl rfl aC<|.ck (qC (v156)) rfl rfl ae rfl rfl<|.ag (Hi:=[(4000063,Hp.store ak.rat 28 v96)]) (Ho:=[(4000063,Hp.store ak.rat 28 v96),(187,aY ak.rat 28 v162)]) (d:=D.own 187) (ds:=[D.mr 4000063 v95.toNat,D.mr 4000063 v74.toNat,qD v156]) (.zu (vB e163) (fun r=>match r with|400=>4000063|10=>187|r=>r) (fun r=>match r with|4000063=>400|187=>10|r=>r) rfl (.r rfl rfl trivial) rfl ⟨.mr (s:=400),.mr (s:=400),.refl rfl,trivial⟩ (.r rfl rfl<|.r rfl rfl<|trivial) rfl (.own (r:=187)) rfl rfl rfl rfl rfl) ⟨rfl,rfl,rfl,trivial⟩ ⟨rfl,trivial⟩ ⟨rfl,trivial⟩<|.ic rfl rfl aA (af e165).1 (by have:=dE e165;simpa using this)<|.Jf (M:=v96) (s2:=3000063) (bn e165) rfl rfl rfl rfl rfl rfl ⟨by decide,by decide,by decide⟩ rfl aC<|.nil) rfl (by kernel_rfl) (fun _ _ hs=>⟨(v96.set v95.toNat v162),(sj h),hs.kz (fun r=>match r with|4000063=>3000063|r=>r) (.r rfl rfl<|.p rfl (.Gi (r:=61))<|.p rfl (.Gi (r:=63))<|.r rfl rfl<|.r rfl rfl<|.r rfl rfl<|.r rfl rfl<|trivial) (.p rfl (.cb (s:=3000061))<|.r rfl rfl<|.p rfl (.cb (s:=4000063))<|.r rfl rfl<|trivial) rfl rfl rfl⟩)
           ·rintro v166 rfl
            try dsimp only
            refine .region (.mv rfl<|.ar rfl rfl rfl<|.aq rfl<|.nil) rfl (fun _ _ hs=>⟨((IntKind.i64.wrap (v95+1)),v166),(sj h),hs.sub (.of rfl) (.of rfl) rfl rfl⟩)
          ·replace h:=aa c101 h;refine .cq rfl c101 ?_;refine .exit (fun a w hs=>⟨_,(sj h),fun e=>by subst e;have h:=ho5;exact aS (⟨v96,(sj h),hs.sub (.of rfl) (.of rfl) rfl rfl⟩)⟩)
         ·rintro v174 rfl
          try dsimp only
          refine .al (.mv rfl<|.ar rfl rfl rfl<|.aq rfl<|.nil) rfl ?_;obtain⟨o177,hl178,h⟩:=bind_some h;have ho4:=h;refine .block (.bU (fun(s:Int×(List (List Rat)))=>[(6,D.int .i64 v3),(10,D.own 61),(11,D.own 63),(13,D.int .i64 v74),(17,D.int .i64 s.1),(82,D.int .i64 v3),(83,D.int .i64 v74)]) (fun(s:Int×(List (List Rat)))=>[(61,Hp.cb ak.rat 68 3000061 ([])),(3000061,Hp.store ak.rat 28 s.2),(63,Hp.cb ak.rat 68 4000063 ([])),(4000063,Hp.store ak.rat 28 v174)]) hl178 (.of rfl) (.of rfl) rfl rfl ?_);rintro⟨v175,v176⟩ st179 hb180;have h:cB v3 v74 v175 v176=some st179:=hb180;unfold cB at h
          try dsimp only
          refine .sq ?_;refine .fH 10 rfl rfl rfl ?_;by_cases c181:(decide (v175<v3))=true
          ·replace h:=ab c181 h;obtain⟨v182,e183,h⟩:=bind_some h;obtain⟨v184,e185,h⟩:=bind_some h;obtain⟨v186,e187,h⟩:=bind_some h;refine .al (.mv rfl<|.mv rfl<|.cm rfl rfl rfl<|.mv rfl<|.gy c181<|.mv rfl<|.gy c181<|.mv rfl<|.gy c181<|.ic rfl rfl aA (af e183).1 (by have:=dE e183;simpa using this)<|.gy c181<|.jl (bn e183) rfl rfl rfl rfl aC<|.gy c181<|.mv rfl<|.gy c181<|.lQ rfl rfl rfl (af e183).2 aV (af e185).1 (dE e185) rfl<|.gy c181<|.gJ rfl rfl (af e183).2 (af e185).2 ae rfl rfl<|.gy c181<|.ag (iv e187) ⟨rfl,trivial⟩ trivial trivial<|.gy c181<|.cm rfl rfl rfl<|.aX rfl c181 rfl<|.nil) rfl ?_;by_cases c188:(v186 !=0)=true
           ·replace h:=ab c188 h;refine .cl rfl c188 ?_;refine .skip (Ok.on ?_);obtain⟨v225,hp190,h⟩:=bind_some h;refine .cc (fun i=>v225=i) (fun(i:(List (List Rat)))=>[(6,D.int .i64 v3),(10,D.own 61),(11,D.own 63),(13,D.int .i64 v74),(17,D.int .i64 v175),(82,D.int .i64 v3),(83,D.int .i64 v74)]) (fun(i:(List (List Rat)))=>[(61,Hp.cb ak.rat 68 3000061 ([])),(3000061,Hp.store ak.rat 28 i),(63,Hp.cb ak.rat 68 4000063 ([])),(4000063,Hp.store ak.rat 28 v174)]) ?_ ?_
            ·have ho5:=h;have h:=hp190;refine .block ?_;obtain⟨v191,e192,h⟩:=bind_some h;obtain⟨v193,e194,h⟩:=bind_some h;obtain⟨v195,e196,h⟩:=bind_some h;obtain⟨v197,e198,h⟩:=bind_some h;obtain⟨v199,e200,h⟩:=bind_some h;refine .cZ cf (.mv rfl<|.mv rfl<|.ic rfl rfl aA (af e192).1 (by have:=dE e192;simpa using this)<|.jl (bn e192) rfl rfl rfl rfl aC<|.mv rfl<|.lQ rfl rfl rfl (af e192).2 aV (af e194).1 (dE e194) rfl<|.gJ rfl rfl (af e192).2 (af e194).2 ae rfl rfl<|.mv rfl<|.mv rfl<|.ic rfl rfl aA (af e196).1 (by have:=dE e196;simpa using this)<|.jl (bn e196) rfl rfl rfl rfl aC<|.mv rfl<|.lQ rfl rfl rfl (af e196).2 aV (af e198).1 (dE e198) rfl<|.gJ rfl rfl (af e196).2 (af e198).2 ae rfl rfl<|.ag (lh e200) ⟨rfl,rfl,trivial⟩ trivial trivial<|.fN (qC (0)) aI ⟨lY,lZ,l4,trivial⟩ rfl<|.cU (qC (v199)) rfl rfl rfl ae rfl rfl rfl<|.nil) rfl (by kernel_rfl) ?_;refine .al (.mv rfl<|.ar rfl rfl rfl<|.aq rfl<|.nil) rfl ?_;obtain⟨o203,hl204,h⟩:=bind_some h;have ho6:=h;refine .block (.bU (fun(s:Int×(List (List Rat)))=>[(6,D.int .i64 v3),(10,D.own 61),(11,D.own 63),(13,D.int .i64 v74),(17,D.int .i64 v175),(18,D.ref 18 0),(19,D.int .i64 s.1),(82,D.int .i64 v3),(83,D.int .i64 v74)]) (fun(s:Int×(List (List Rat)))=>[(61,Hp.cb ak.rat 68 3000061 ([])),(3000061,Hp.store ak.rat 28 s.2),(63,Hp.cb ak.rat 68 4000063 ([])),(4000063,Hp.store ak.rat 28 v174),(18,Hp.box 28 (qC (v199)))]) hl204 (.k rfl<|.p rfl .sl<|.k rfl<|.k rfl<|.k rfl<|.k rfl<|.k rfl<|.k rfl<|.k rfl<|trivial) (.of rfl) rfl rfl ?_);rintro⟨v201,v202⟩ st205 hb206;have h:g_ v3 v74 v175 v199 v201 v202=some st205:=hb206;unfold g_ at h
             try dsimp only
             refine .sq ?_;refine .al (.mv rfl<|.mv rfl<|.cm rfl rfl rfl<|.nil) rfl ?_;by_cases c207:(decide (v201<v3))=true
             ·replace h:=ab c207 h;refine .cl rfl c207 ?_;refine .skip (Ok.on ?_);refine .sq ?_;refine .block ?_;refine .fH 10 rfl rfl rfl ?_;obtain⟨v208,e209,h⟩:=bind_some h;obtain⟨v210,e211,h⟩:=bind_some h;obtain⟨v212,e213,h⟩:=bind_some h;obtain⟨v214,e215,h⟩:=bind_some h;obtain⟨v216,e217,h⟩:=bind_some h;obtain⟨v218,e219,h⟩:=bind_some h;obtain⟨v220,e221,h⟩:=bind_some h;obtain⟨v222,e223,h⟩:=bind_some h;refine .c_ cf (.mv rfl<|.mv rfl<|.ic rfl rfl aA (af e209).1 (by have:=dE e209;simpa using this)<|.jl (bn e209) rfl rfl rfl rfl aC<|.mv rfl<|.mv rfl<|.mv rfl<|.ic rfl rfl aA (af e211).1 (by have:=dE e211;simpa using this)<|.jl (bn e211) rfl rfl rfl rfl aC<|.mv rfl<|.lQ rfl rfl rfl (af e211).2 aV (af e213).1 (dE e213) rfl<|.gJ rfl rfl (af e211).2 (af e213).2 ae rfl rfl<|.ck (qC (v199)) rfl rfl ae rfl rfl<|.mv rfl<|.mv rfl<|.ic rfl rfl aA (af e215).1 (by have:=dE e215;simpa using this)<|.jl (bn e215) rfl rfl rfl rfl aC<|.mv rfl<|.lQ rfl rfl rfl (af e215).2 aV (af e217).1 (dE e217) rfl<|.gJ rfl rfl (af e215).2 (af e217).2 ae rfl rfl<|.ag (lE e219) ⟨rfl,rfl,trivial⟩ trivial trivial<|.ag (rX e221) ⟨rfl,rfl,trivial⟩ trivial trivial<|.lQ rfl rfl rfl (af e209).2 aV (af e223).1 (dE e223) rfl<|.xr v220 rfl rfl rfl (af e209).2 (bn e223) ae rfl rfl rfl<|.nil) rfl (by kernel_rfl) (Ok.on ?_);refine .region (.mv rfl<|.ar rfl rfl rfl<|.aq rfl<|.nil) rfl (fun _ _ hs=>⟨((IntKind.i64.wrap (v201+1)),(v202.set v175.toNat (v208.set v201.toNat v220))),(sj h),hs.sub (.k rfl<|.p rfl .sl<|.k rfl<|.k rfl<|.k rfl<|.k rfl<|.k rfl<|.k rfl<|.k rfl<|trivial) (.of rfl) rfl rfl⟩)
             ·replace h:=aa c207 h;refine .cq rfl c207 ?_;refine .exit (fun a w hs=>⟨_,(sj h),fun e=>by subst e;have h:=ho6;exact aS (⟨v202,(sj h),hs.sub (.of rfl) (.of rfl) rfl rfl⟩)⟩)
            ·rintro _ rfl
             try dsimp only
             refine .region (.mv rfl<|.ar rfl rfl rfl<|.aq rfl<|.nil) rfl (fun _ _ hs=>⟨((IntKind.i64.wrap (v175+1)),v225),(sj h),hs.sub (.of rfl) (.of rfl) rfl rfl⟩)
           ·replace h:=aa c188 h;refine .cq rfl c188 ?_;refine .exit (fun a w hs=>⟨_,(sj h),fun e=>by subst e;have h:=ho4;exact aS (⟨(v176,v174),(sj h),hs.sub (.k rfl<|.p rfl .sl<|.k rfl<|.k rfl<|.k rfl<|trivial) (.of rfl) rfl rfl⟩)⟩)
          ·replace h:=aa c181 h;refine .al (.mv rfl<|.mv rfl<|.cm rfl rfl rfl<|.mv rfl<|.gm c181<|.gm c181<|.gm c181<|.gm c181<|.gm c181<|.gm c181<|.gm c181<|.gm c181<|.gm c181<|.aT rfl c181 rfl<|.nil) rfl ?_;refine .cq rfl (by decide) ?_;refine .exit (fun a w hs=>⟨_,(sj h),fun e=>by subst e;have h:=ho4;exact aS (⟨(v176,v174),(sj h),hs.sub (.k rfl<|.p rfl .sl<|.k rfl<|.k rfl<|.k rfl<|trivial) (.of rfl) rfl rfl⟩)⟩)
       ·rintro⟨v230,v231⟩ rfl
        try dsimp only
        refine .region (.ar rfl rfl rfl<|.mv rfl<|.nil) rfl (fun _ _ hs=>⟨((IntKind.i64.wrap (v74+1)),v230,v231),(sj h),hs.sub (.of rfl) (.of rfl) rfl rfl⟩)
      ·replace h:=aa c81 h;refine .cq rfl c81 ?_;refine .exit (fun a w hs=>⟨_,(sj h),fun e=>by subst e;have h:=ho2;exact aS (⟨(),(sj h),hs.sub trivial trivial rfl rfl⟩)⟩)
     ·rintro⟨⟩ rfl
      try dsimp only
      refine .al (.aq rfl<|.aq rfl<|.aq rfl<|.nil) rfl ?_;cases h;refine .aO (fun _ _ hb=>hb) rfl (.cons (.tmp rfl) (.cons (.tmp rfl) (.t1 (.tmp rfl)))) (.ig ⟨.refl _,.jF _,.refl _,trivial⟩) trivial trivial
end
end Go.Am
namespace Go.Am
theorem om{σ ρ:Type}{b1 b2:σ->Option (St σ ρ)}(I:σ->Prop)(h:∀s,I s->b1 s=b2 s)(hp:∀s s',I s->b2 s=some (.next s')->I s'):∀k s,I s->kG b1 k s=kG b2 k s
 |0,_,_=>rfl
 |k+1,s,hs=>by
  unfold kG;rw[h s hs]
  cases hb:b2 s with
  |none=>rfl
  |some x=>
   cases x with
   |done r=>rfl
   |next s'=>exact om I h hp k s' (hp s s' hs hb)
theorem zT{σ ρ:Type}{b1 b2:σ->Option (St σ ρ)}(I:σ->Prop)(h:∀s,I s->b1 s=b2 s)(hp:∀s s',I s->b2 s=some (.next s')->I s'){s:σ}(hs:I s):Loop b1 s=Loop b2 s:=by
 apply Option.ext;intro r;rw[lf,lf];exact⟨fun⟨k,hk⟩=>⟨k,by rw[←om I h hp k s hs];exact hk⟩,fun⟨k,hk⟩=>⟨k,by rw[om I h hp k s hs];exact hk⟩⟩
variable {n:Nat} {f:Nat->Nat->Rat} {B:Nat}
def fF(k:Nat)(f:Nat->Nat->Rat)(i j:Nat):Rat:=f (k+i) (k+j)
theorem so{k:Nat}:∀d i,n-k-i=d->da f k n (k+i)=k+da (fF k f) 0 (n-k) i
 |d,i,h=>by
  by_cases hlt:k+i<n
  ·rw[gS hlt,gS (show i<n-k by omega)];have e0:fF k f i 0=f (k+i) k:=rfl;rw[e0];by_cases h0:f (k+i) k=0
   ·rw[if_pos h0,if_pos h0]
    cases d with
    |zero=>omega
    |succ d=>exact so d (i+1) (by omega)
   ·rw[if_neg h0,if_neg h0]
  ·rw[jX hlt,jX (by omega)]
theorem EV(n k i:Int)(c:Rat):lH n k i c=cN k n i c:=rfl
def iu(f:Nat->Nat->Rat)(k i i' j:Nat):Rat:=if k<i'/\i'<i/\k<=j then f i' j-f i' k/f k k*f k j else f i' j
theorem tu{k i:Nat}(hf:kE f B):kE (iu f k i) (4*B+4):=fun i' j=>by
 have h1:=hf i' j;unfold iu
 split
 ·have h2:=hf i' k;have h3:=hf k k;have h4:=hf k j;have h5:=i4 (f i' k) (f k k);have h6:=gW (f i' k/f k k) (f k j);have h7:=px (f i' j) (f i' k/f k k*f k j);omega
 ·omega
theorem vD{k i j:Nat}:iu f k i k j=f k j:=by unfold iu;rw[if_neg (by omega)]
theorem ub{k i j:Nat}:iu f k i i j=f i j:=by unfold iu;rw[if_neg (by omega)]
theorem Fg{body:Int×List (List Rat)->Option (St (Int×List (List Rat)) (List (List Rat)))}{k:Nat}(hbody:∀(i:Nat) g,body ((i:Int),az n n g)=iT (n:Int) (k:Int) (i:Int) (az n n g))(hk:k<n)(hn:n<=6)(hf:kE f B)(hB:4*B+4<=1000000000)(h0:f k k≠0):
  Loop body (((k+1:Nat):Int),az n n f)=some (az n n (iu f k n)):=by
 have hL:=nN (body:=body) (k+1) n (fun i=>az n n (iu f k i)) (az n n (iu f k n)) hk (fun i hki hi=>by
  rw[hbody];unfold iT;have h1:=hf i k;have h2:=hf k k;have h3:=i4 (f i k) (f k k);rw[if_pos (decide_eq_true (by omega)),bp hi,Option.bind_some,cy hk,Option.bind_some,bp hk,Option.bind_some,cy hk,Option.bind_some,ub,vD,
   k8 h0 (show di (f i k)by unfold di;omega) (show di (f k k)by unfold di;omega),Option.bind_some]
  rw[EV,ui hk hi (by omega) (by omega) (by omega) (tu hf) (by omega) hB,Option.bind_some,Option.bind_some,cI hi (by omega)];rw[cD (g:=iu f k (i+1)) (fun i' j _ _=>by
   rw[ub,vD];unfold iu;by_cases e:i'=i/\k<=j
   ·rw[if_pos e,if_pos (by omega),e.1]
   ·rw[if_neg e];by_cases e2:k<i'/\i'<i/\k<=j
    ·rw[if_pos e2,if_pos (by omega)]
    ·rw[if_neg e2,if_neg (by omega)])]) (by
  rw[hbody];unfold iT;rw[if_neg (by simp)])
 have e0:az n n f=az n n (iu f k (k+1)):=cD fun i j _ _=>by unfold iu;rw[if_neg (by omega)]
 rw[e0];exact hL
theorem y4{k i:Nat}{g:Nat->Nat->Rat}:ja (k:Int) (i:Int) (az n n g)=iT (n:Int) (k:Int) (i:Int) (az n n g):=by
 unfold ja iT;rw[aP];have e:∀c:Rat,Loop (fun(s:Int×(List (List Rat)))=>lP (k:Int) (i:Int) c s.1 s.2) ((k:Int),az n n g)=Loop (fun(s:Int×(List (List Rat)))=>lH (n:Int) (k:Int) (i:Int) c s.1 s.2) ((k:Int),az n n g):=fun c=>
  zT (fun s=>s.2.length=n) (fun s hs=>by unfold lP lH;rw[hs]) (fun s s' hs h=>by
   unfold lH at h
   split at h
   ·simp only[Option.bind_eq_some_iff]at h;obtain⟨_,_,_,_,_,_,_,_,_,_,_,_,_,_,_,_,h⟩:=h;injection h with h;injection h with h;subst h;simpa using hs
   ·injection h with h;cases h) (by rw[aP])
 simp only[e]
theorem tz{k:Nat}{g:Nat->Nat->Rat}:(fun s=>ov (n:Int) (k:Int) (az n n g) s)=(fun s=>dH (k:Int) (az n n g) s):=by
 funext s
 unfold ov dH;rw[aP]
theorem rR(k:Int)(M:List (List Rat)):nf k M=dH k M:=rfl
theorem zx{a b:Nat}:bQ f a b=bQ f b a:=by
 funext i j
 unfold bQ;by_cases e1:i=b
 ·by_cases e2:i=a
  ·rw[if_pos e1,if_pos e2,←e1,←e2]
  ·rw[if_pos e1,if_neg e2,if_pos e1]
 ·by_cases e2:i=a
  ·rw[if_neg e1,if_pos e2,if_pos e2]
  ·rw[if_neg e1,if_neg e2,if_neg e2,if_neg e1]
theorem y3{k:Nat}{f1:Nat->Nat->Rat}{i j:Nat}(hi:k+1+i<n):fF (k+1) (iu f1 k n) i j=tD (fF k f1) i j:=by
 unfold fF tD iu;rw[if_pos (by omega),show k+1+i=k+(i+1)by omega,show k+1+j=k+(j+1)by omega]
 rfl
theorem ym{k p:Nat}:fF k (bQ f k (k+p))=bQ (fF k f) 0 p:=by
 funext i j
 unfold fF bQ;by_cases e:i=p
 ·rw[if_pos (by omega),if_pos e];rfl
 ·rw[if_neg (by omega),if_neg e];by_cases e2:i=0
  ·rw[if_pos (by omega),if_pos e2]
  ·rw[if_neg (by omega),if_neg e2]
theorem rK(hn:n<=6):∀d k (f:Nat->Nat->Rat) (D:Rat) (M0:List (List Rat)),M0.length=n->n-k=d->k<=n->kE f (300*8^k)->sz D<=300*8^k->
  ∃r,r=D*iF (n-k) (fF k f)/\sz r<=300*8^n/\
   (Loop (fun(s:Int×(List (List Rat))×Rat)=>dM (n:Int) M0 s.1 s.2.1 s.2.2) ((k:Int),az n n f,D)=some (Ex.cd r)\/(r=0/\Loop (fun(s:Int×(List (List Rat))×Rat)=>dM (n:Int) M0 s.1 s.2.1 s.2.2) ((k:Int),az n n f,D)=some (Ex.ret (0,0))))/\
   (Loop (fun(s:Int×(List (List Rat))×Rat)=>cS s.1 s.2.1 s.2.2) ((k:Int),az n n f,D)=some (Ex.cd r)\/(r=0/\Loop (fun(s:Int×(List (List Rat))×Rat)=>cS s.1 s.2.1 s.2.2) ((k:Int),az n n f,D)=some (Ex.ret 0)))
 |d,k,f,D,M0,hM0,hd,hk,hf,hD=>by
  by_cases hlt:k<n
  ·have hfind:=zP (f:=f) (m:=n) (n:=n) hlt (by omega) (n-k) k rfl hk;have hge:=qh (f:=f) (k:=k) (n:=n) (n-k) k rfl;have hle:=tt (f:=f) (k:=k) (n:=n) (n-k) k rfl hk;have hsh:=so (f:=f) (n:=n) (k:=k) (n-k) 0 (by omega);rw[Nat.add_zero]at hsh;have hB:300*8^k<=9830400:=by
    have:300*8^k<=300*8^5:=zc (by omega);have e:(300:Nat)*8^5=9830400:=by decide
    omega
   have hnext:4*(300*8^k)+4<=300*8^(k+1)/\2*(300*8^k)<=300*8^(k+1):=by
    rw[Nat.pow_succ];have:0<8^k:=Nat.pow_pos (by decide);omega
   obtain⟨d,rfl⟩:∃d',d=d'+1:=⟨d-1,by omega⟩;have hnk:n-k=(n-(k+1))+1:=by omega
   by_cases hat:da f k n k<n
   ·have hne:=mQ (f:=f) (k:=k) (n:=n) (n-k) k rfl hat;by_cases hkk:f k k=0
    ·-- an exchange
     have hak:da f k n k≠k:=fun e=>by rw[e]at hne;exact hne hkk
     obtain⟨p,hp⟩:∃p,da f k n k=k+p:=⟨da f k n k-k,by omega⟩;rw[hp]at hfind hat hne hak hsh;have hs:=lL (a:=k) (b:=k+p) hf;have hpv:bQ f k (k+p) k k=f (k+p) k:=by unfold bQ;rw[if_neg (by omega),if_pos rfl]
     have hD2:sz (-D*f (k+p) k)<=300*8^(k+1):=by
      have:=gW (-D) (f (k+p) k);have h2:=hf (k+p) k;rw[l5]at this;omega
     have hq:fh (-D) (f (k+p) k)=some (-D*f (k+p) k):=kl (by unfold di;rw[l5];omega) (by have:=hf (k+p) k;unfold di;omega);have hd1:=Fg (n:=n) (body:=fun(s:Int×(List (List Rat)))=>iT (n:Int) (k:Int) s.1 s.2) (fun _ _=>rfl) hlt hn hs (by omega) (by rw[hpv];exact hne);have hd2:=Fg (n:=n) (body:=fun(s:Int×(List (List Rat)))=>ja (k:Int) s.1 s.2) (fun _ _=>y4) hlt hn hs (by omega) (by rw[hpv];exact hne);obtain⟨r,hr,hrs,h1,h2⟩:=rK hn d (k+1) (iu (bQ f k (k+p)) k n) (-D*f (k+p) k) M0 hM0 (by omega) hlt (fun i j=>Nat.le_trans (tu hs i j) hnext.1) hD2;refine⟨r,?_,hrs,?_,?_⟩
     ·rw[hr,hnk];have hpe:da (fF k f) 0 (n-(k+1)+1) 0=p:=by
       have:n-k=n-(k+1)+1:=hnk;rw[←this];omega
      rw[pR (f:=fF (k+1) (iu (bQ f k (k+p)) k n)) (g:=tD (fF k (bQ f k (k+p)))) (fun i j hi _=>y3 (by omega)),ym]
      conv=>rhs;unfold iF
      rw[if_neg (by simpa [fF]using hkk),hpe,if_pos (by omega),show fF k f p 0=f (k+p) k from rfl]
      grind
     ·have hb:dM (n:Int) M0 (k:Int) (az n n f) D=some (.next (((k+1:Nat):Int),az n n (iu (bQ f k (k+p)) k n),-D*f (k+p) k)):=by
       unfold dM;rw[hM0,if_pos (decide_eq_true (by omega)),tz,hfind,Option.bind_some,if_neg (by rw[beq_iff_eq];omega),if_pos (by rw[bne_iff_ne];omega),bp hlt,Option.bind_some,bp hat,Option.bind_some,Option.bind_some,Option.bind_some,show pg D=some (-D)from rfl,Option.bind_some,Option.bind_some];simp only;rw[oT (a:=k+p) (b:=k),zx,bp hlt,Option.bind_some,cy hlt,Option.bind_some,hpv,hq,Option.bind_some,cI hlt (by omega),hd1,Option.bind_some,Option.bind_some]
      rw[dt (body:=fun(s:Int×(List (List Rat))×Rat)=>dM (n:Int) M0 s.1 s.2.1 s.2.2) hb];exact h1
     ·have hb:cS (k:Int) (az n n f) D=some (.next (((k+1:Nat):Int),az n n (iu (bQ f k (k+p)) k n),-D*f (k+p) k)):=by
       unfold cS;rw[aP,if_pos (decide_eq_true (by omega)),rR,hfind,Option.bind_some,if_neg (by rw[beq_iff_eq];omega),if_pos (by rw[bne_iff_ne];omega),bp hat,Option.bind_some,bp hlt,Option.bind_some,Option.bind_some,Option.bind_some,show pg D=some (-D)from rfl,Option.bind_some,Option.bind_some];simp only;rw[oT (a:=k) (b:=k+p),bp hlt,Option.bind_some,cy hlt,Option.bind_some,hpv,hq,Option.bind_some,cI hlt (by omega),hd2,Option.bind_some,Option.bind_some]
      rw[dt (body:=fun(s:Int×(List (List Rat))×Rat)=>cS s.1 s.2.1 s.2.2) hb];exact h2
    ·have hak:da f k n k=k:=by rw[gS hlt,if_neg hkk]
     rw[hak]at hfind;have hD2:sz (D*f k k)<=300*8^(k+1):=by
      have:=gW D (f k k);have h2:=hf k k;omega
     have hq:fh D (f k k)=some (D*f k k):=kl (by unfold di;omega) (by have:=hf k k;unfold di;omega);have hd1:=Fg (n:=n) (body:=fun(s:Int×(List (List Rat)))=>iT (n:Int) (k:Int) s.1 s.2) (fun _ _=>rfl) hlt hn hf (by omega) hkk;have hd2:=Fg (n:=n) (body:=fun(s:Int×(List (List Rat)))=>ja (k:Int) s.1 s.2) (fun _ _=>y4) hlt hn hf (by omega) hkk;obtain⟨r,hr,hrs,h1,h2⟩:=rK hn d (k+1) (iu f k n) (D*f k k) M0 hM0 (by omega) hlt (fun i j=>Nat.le_trans (tu hf i j) hnext.1) hD2;refine⟨r,?_,hrs,?_,?_⟩
     ·rw[hr,hnk]
      conv=>rhs;unfold iF
      rw[if_pos (show fF k f 0 0≠0 from hkk),pR (f:=fF (k+1) (iu f k n)) (g:=tD (fF k f)) (fun i j hi _=>y3 (by omega)),show fF k f 0 0=f k k from rfl]
      grind
     ·have hb:dM (n:Int) M0 (k:Int) (az n n f) D=some (.next (((k+1:Nat):Int),az n n (iu f k n),D*f k k)):=by
       unfold dM;rw[hM0,if_pos (decide_eq_true (by omega)),tz,hfind,Option.bind_some,if_neg (by rw[beq_iff_eq];omega),if_neg (by simp),Option.bind_some];simp only;rw[bp hlt,Option.bind_some,cy hlt,Option.bind_some,hq,Option.bind_some,cI hlt (by omega),hd1,Option.bind_some,Option.bind_some]
      rw[dt (body:=fun(s:Int×(List (List Rat))×Rat)=>dM (n:Int) M0 s.1 s.2.1 s.2.2) hb];exact h1
     ·have hb:cS (k:Int) (az n n f) D=some (.next (((k+1:Nat):Int),az n n (iu f k n),D*f k k)):=by
       unfold cS;rw[aP,if_pos (decide_eq_true (by omega)),rR,hfind,Option.bind_some,if_neg (by rw[beq_iff_eq];omega),if_neg (by simp),Option.bind_some];simp only;rw[bp hlt,Option.bind_some,cy hlt,Option.bind_some,hq,Option.bind_some,cI hlt (by omega),hd2,Option.bind_some,Option.bind_some]
      rw[dt (body:=fun(s:Int×(List (List Rat))×Rat)=>cS s.1 s.2.1 s.2.2) hb];exact h2
   ·have hnn:da f k n k=n:=by omega
    rw[hnn]at hfind;have hall:=oY (f:=f) (k:=k) (n:=n) (n-k) k rfl hat;have hkk:f k k=0:=hall k (Nat.le_refl _) hlt;refine⟨0,?_,by show sz (0:Rat)<=_;have:0<8^n:=Nat.pow_pos (by decide);have e:sz (0:Rat)=1:=rfl;omega,.inr ⟨rfl,?_⟩,.inr ⟨rfl,?_⟩⟩
    ·rw[hnk];unfold iF;rw[if_neg (by simpa [fF]using hkk),if_neg (by rw[←hnk];omega)];grind
    ·refine bW (body:=fun(s:Int×(List (List Rat))×Rat)=>dM (n:Int) M0 s.1 s.2.1 s.2.2) ?_;show dM (n:Int) M0 (k:Int) (az n n f) D=_;unfold dM;rw[hM0,if_pos (decide_eq_true (by omega)),tz,hfind,Option.bind_some,if_pos (by simp),Option.bind_some]
     try rfl
    ·refine bW (body:=fun(s:Int×(List (List Rat))×Rat)=>cS s.1 s.2.1 s.2.2) ?_;show cS (k:Int) (az n n f) D=_;unfold cS;rw[aP,if_pos (decide_eq_true (by omega)),rR,hfind,Option.bind_some,if_pos (by simp),Option.bind_some]
     try rfl
  ·have hkn:k=n:=by omega
   subst hkn;refine⟨D,by rw[Nat.sub_self];unfold iF;grind,hD,.inl ?_,.inl ?_⟩
   ·refine bW (body:=fun(s:Int×(List (List Rat))×Rat)=>dM (k:Int) M0 s.1 s.2.1 s.2.2) ?_;show dM (k:Int) M0 (k:Int) (az k k f) D=_;unfold dM;rw[hM0,if_neg (by simp)]
   ·refine bW (body:=fun(s:Int×(List (List Rat))×Rat)=>cS s.1 s.2.1 s.2.2) ?_;show cS (k:Int) (az k k f) D=_;unfold cS;rw[aP,if_neg (by simp)]
theorem Es(f:Nat->Nat->Rat)(hn:n<=6)(hf:kE f 300):tY (az n n f)=some (iF n f,0)/\oB (az n n f)=some (iF n f)/\sz (iF n f)<=300*8^n:=by
 have hc:gE (az n n f)=n:=by
  by_cases h:n=0
  ·subst h;rfl
  ·exact oX (by omega)
 have hrl:∀r∈az n n f,r.length<=30:=fun r hr=>by rw[mR hr];omega
 obtain⟨r,hr,hs,h1,h2⟩:=rK (n:=n) hn n 0 f 1 (az n n f) aP rfl (Nat.zero_le _) (by simpa using hf) (by decide+kernel);have hr:r=iF n f:=by
  rw[hr,Nat.sub_zero];have:fF 0 f=f:=by funext i j;unfold fF;rw[Nat.zero_add,Nat.zero_add]
  rw[this];grind
 subst hr;refine⟨?_,?_,hs⟩
 ·unfold tY;rw[kO _ (by rw[aP];omega),lS,hc,aP,Option.bind_some];simp only[Bool.not_true,Bool.false_eq_true,if_false];rw[if_neg (by simp),rm _ (by rw[aP];omega) hrl,Option.bind_some,ou,Option.bind_some];rcases h1 with h1|⟨h0,h1⟩
  ·have:Loop (fun(s:Int×(List (List Rat))×Rat)=>dM (n:Int) (az n n f) s.1 s.2.1 s.2.2) (0,az n n f,1)=_:=h1;rw[this];rfl
  ·have:Loop (fun(s:Int×(List (List Rat))×Rat)=>dM (n:Int) (az n n f) s.1 s.2.1 s.2.2) (0,az n n f,1)=_:=h1;rw[this,h0];rfl
 ·unfold oB;rw[vJ _ (by rw[aP];omega) hrl,Option.bind_some,ou,Option.bind_some];rcases h2 with h2|⟨h0,h2⟩
  ·have:Loop (fun(s:Int×(List (List Rat))×Rat)=>cS s.1 s.2.1 s.2.2) (0,az n n f,1)=_:=h2;rw[this];rfl
  ·have:Loop (fun(s:Int×(List (List Rat))×Rat)=>cS s.1 s.2.1 s.2.2) (0,az n n f,1)=_:=h2;rw[this,h0];rfl
end Go.Am
namespace Go.Am
variable {n:Nat} {f b S A:Nat->Nat->Rat} {B:Nat}
def Qf(n:Nat)(A:Nat->Nat->Rat)(u v:Nat->Rat):Rat:=cr (List.range n) fun p=>cr (List.range n) fun q=>u p*A p q*v q
theorem Bc{u v w:Nat->Rat}{c:Rat}:Qf n A (fun p=>u p+c*v p) w=Qf n A u w+c*Qf n A v w:=by
 unfold Qf;rw[←fj,←gO];refine bD fun p _=>?_;rw[←fj,←gO];exact bD fun q _=>by grind
theorem qG{u v w:Nat->Rat}{c:Rat}:Qf n A w (fun p=>u p+c*v p)=Qf n A w u+c*Qf n A w v:=by
 unfold Qf;rw[←fj,←gO];refine bD fun p _=>?_;rw[←fj,←gO];exact bD fun q _=>by grind
theorem G3{x:Nat->Rat}:Qf n A x x=qf (List.range n) A x:=bD fun p _=>bD fun q _=>by grind
def iW(i j:Nat):Rat:=if i=j then 1 else 0
theorem E5{i j:Nat}(hi:i<n)(hj:j<n):Qf n A (iW i) (iW j)=A i j:=by
 have u0:∀{i p:Nat},p≠i->iW i p=0:=fun h=>by unfold iW;rw[if_neg (Ne.symm h)]
 have u1:∀{i:Nat},iW i i=1:=by intro i;unfold iW;rw[if_pos rfl]
 unfold Qf;rw[kL List.nodup_range (List.mem_range.2 hi) (fun p _ hp=>iI fun q _=>by rw[u0 hp];grind),kL List.nodup_range (List.mem_range.2 hj) (fun q _ hq=>by rw[u0 hq];grind),u1,u1]
 grind
def nb(b f:Nat->Nat->Rat)(k i j:Nat):Rat:=if k<i then b i j+-(f i k/f k k)*b k j else b i j
theorem JJ{k:Nat}(hs:symm S)(h0:S k k≠0)(hf:∀i,k<=i->i<n->f i k=S i k)(hk:k<n)(hQ:∀i j,k<=i->i<n->k<=j->j<n->Qf n A (b i) (b j)=S i j){i j:Nat}(hi:k<i)(du:i<n)(hj:k<j)(hjn:j<n):Qf n A (nb b f k i) (nb b f k j)=me S k i j:=by
 have e:∀i,k<i->nb b f k i=fun p=>b i p+-(f i k/f k k)*b k p:=fun i hi=>by funext p;unfold nb;rw[if_pos hi]
 rw[e i hi,e j hj,Bc,qG,qG,hQ _ _ (by omega) du (by omega) hjn,hQ _ _ (by omega) du (by omega) hk,hQ _ _ (by omega) hk (by omega) hjn,hQ _ _ (by omega) hk (by omega) hk,hf i (by omega) du,hf j (by omega) hjn,hf k (by omega) hk];unfold me;rw[hs k j];have h1:S j k/S k k*S k k=S j k:=Rat.div_mul_cancel h0;have h2:S i k/S k k*S k k=S i k:=Rat.div_mul_cancel h0;generalize S i k/S k k=x at*;generalize S j k/S k k=y at*;rw[←h1,←h2]
 grind
def Ev(n:Nat)(f:Nat->Nat->Rat):Prop:=∀i j,j<i->i<n->f i j=f j i
theorem AS{a b:Rat}:(iL a b !=0)=true↔a≠b:=by
 rw[bne_iff_ne];unfold iL
 constructor
 ·intro h e;subst e;grind
 ·intro h e;by_cases h1:a<b
  ·rw[if_pos h1]at e;omega
  ·rw[if_neg h1]at e;by_cases h2:b<a
   ·rw[if_pos h2]at e;omega
   ·grind
theorem Bg{i:Nat}(hi:i<n)(hn:n<=6)(hf:kE f 300):∀d k,i-k=d->k<=i->
  (Loop (fun(s:Int)=>bO (az n n f) (i:Int) s) (k:Int)=some (Ex.cd ())/\Loop (fun(s:Int)=>b_ (az n n f) (i:Int) s) (k:Int)=some (Ex.cd ())/\∀j,k<=j->j<i->f i j=f j i)\/
  (Loop (fun(s:Int)=>bO (az n n f) (i:Int) s) (k:Int)=some (Ex.ret (false,[],2))/\Loop (fun(s:Int)=>b_ (az n n f) (i:Int) s) (k:Int)=some (Ex.ret false)/\∃j,j<i/\f i j≠f j i)
 |0,k,hd,hk=>by
  have:k=i:=by omega
  subst this;refine .inl ⟨bW (body:=fun(s:Int)=>bO (az n n f) (k:Int) s) ?_,bW (body:=fun(s:Int)=>b_ (az n n f) (k:Int) s) ?_,fun j h1 h2=>by omega⟩
  ·unfold bO;rw[if_neg (by simp)]
  ·unfold b_;rw[if_neg (by simp)]
 |d+1,k,hd,hk=>by
  have hlt:k<i:=by omega
  have q1:di (f i k):=Nat.le_trans (hf i k) (by decide);have q2:di (f k i):=Nat.le_trans (hf k i) (by decide);by_cases he:f i k=f k i
  ·have b1:bO (az n n f) (i:Int) (k:Int)=some (.next ((k+1:Nat):Int)):=by
    unfold bO;rw[if_pos (decide_eq_true (by omega)),bp hi,Option.bind_some,cy (by omega),Option.bind_some,bp (by omega),Option.bind_some,cy hi,Option.bind_some,qS q1 q2,Option.bind_some,if_neg (by rw[AS];exact fun h=>h he),cI hlt (by omega)]
   have b2:b_ (az n n f) (i:Int) (k:Int)=some (.next ((k+1:Nat):Int)):=by
    unfold b_;rw[if_pos (decide_eq_true (by omega)),bp hi,Option.bind_some,cy (by omega),Option.bind_some,bp (by omega),Option.bind_some,cy hi,Option.bind_some,qS q1 q2,Option.bind_some,if_neg (by rw[AS];exact fun h=>h he),cI hlt (by omega)]
   rw[dt (body:=fun(s:Int)=>bO (az n n f) (i:Int) s) b1,dt (body:=fun(s:Int)=>b_ (az n n f) (i:Int) s) b2];rcases Bg hi hn hf d (k+1) (by omega) (by omega)with⟨h1,h2,h3⟩|h
   ·refine .inl ⟨h1,h2,fun j hj hji=>?_⟩;by_cases e:j=k
    ·subst e;exact he
    ·exact h3 j (by omega) hji
   ·exact .inr h
  ·refine .inr ⟨bW (body:=fun(s:Int)=>bO (az n n f) (i:Int) s) ?_,bW (body:=fun(s:Int)=>b_ (az n n f) (i:Int) s) ?_,k,hlt,he⟩
   ·unfold bO;rw[if_pos (decide_eq_true (by omega)),bp hi,Option.bind_some,cy (by omega),Option.bind_some,bp (by omega),Option.bind_some,cy hi,Option.bind_some,qS q1 q2,Option.bind_some,if_pos (AS.2 he)]
   ·unfold b_;rw[if_pos (decide_eq_true (by omega)),bp hi,Option.bind_some,cy (by omega),Option.bind_some,bp (by omega),Option.bind_some,cy hi,Option.bind_some,qS q1 q2,Option.bind_some,if_pos (AS.2 he)]
theorem AO(hn:n<=6)(hf:kE f 300):∀d i,n-i=d->i<=n->
  (Loop (fun(s:Int)=>bR (az n n f) s) (i:Int)=some (Ex.cd ())/\Loop (fun(s:Int)=>ca (az n n f) s) (i:Int)=some (Ex.cd ())/\∀i',i<=i'->i'<n->∀j,j<i'->f i' j=f j i')\/
  (Loop (fun(s:Int)=>bR (az n n f) s) (i:Int)=some (Ex.ret (false,[],2))/\Loop (fun(s:Int)=>ca (az n n f) s) (i:Int)=some (Ex.ret false)/\¬Ev n f)
 |0,i,hd,hi=>by
  have:i=n:=by omega
  subst this;refine .inl ⟨bW (body:=fun(s:Int)=>bR (az i i f) s) ?_,bW (body:=fun(s:Int)=>ca (az i i f) s) ?_,fun j h1 h2=>by omega⟩
  ·unfold bR;rw[aP,if_neg (by simp)]
  ·unfold ca;rw[aP,if_neg (by simp)]
 |d+1,i,hd,hi=>by
  have hlt:i<n:=by omega
  rcases Bg hlt hn hf i 0 (by omega) (Nat.zero_le _)with⟨h1,h2,h3⟩|⟨h1,h2,j,hj,he⟩
  ·have b1:bR (az n n f) (i:Int)=some (.next ((i+1:Nat):Int)):=by
    unfold bR;have h1':Loop (fun(s:Int)=>bO (az n n f) (i:Int) s) 0=some (Ex.cd ()):=h1;rw[aP,if_pos (decide_eq_true (by omega)),h1',Option.bind_some,Option.bind_some,cI hlt (by omega)]
   have b2:ca (az n n f) (i:Int)=some (.next ((i+1:Nat):Int)):=by
    unfold ca;have h2':Loop (fun(s:Int)=>b_ (az n n f) (i:Int) s) 0=some (Ex.cd ()):=h2;rw[aP,if_pos (decide_eq_true (by omega)),h2',Option.bind_some,Option.bind_some,cI hlt (by omega)]
   rw[dt (body:=fun(s:Int)=>bR (az n n f) s) b1,dt (body:=fun(s:Int)=>ca (az n n f) s) b2];rcases AO hn hf d (i+1) (by omega) hlt with⟨g1,g2,g3⟩|g
   ·refine .inl ⟨g1,g2,fun i' hi' du j hj=>?_⟩;by_cases e:i'=i
    ·subst e;exact h3 j (Nat.zero_le _) hj
    ·exact g3 i' (by omega) du j hj
   ·exact .inr g
  ·refine .inr ⟨bW (body:=fun(s:Int)=>bR (az n n f) s) ?_,bW (body:=fun(s:Int)=>ca (az n n f) s) ?_,fun h=>he (h i j hj hlt)⟩
   ·unfold bR;have h1':Loop (fun(s:Int)=>bO (az n n f) (i:Int) s) 0=some (Ex.ret (false,[],2)):=h1;rw[aP,if_pos (decide_eq_true (by omega)),h1',Option.bind_some,Option.bind_some]
   ·unfold ca;have h2':Loop (fun(s:Int)=>b_ (az n n f) (i:Int) s) 0=some (Ex.ret false):=h2;rw[aP,if_pos (decide_eq_true (by omega)),h2',Option.bind_some,Option.bind_some]
theorem zo(hn:n<=6):Loop (fun(s:Int×(List (List Rat))×(List (List Rat)))=>dN (n:Int) s.1 s.2.1 s.2.2) (0,List.replicate n ([]:List Rat),([]:List (List Rat)))=some ([],az n n iW):=by
 have hL:=fz (body:=fun(s:Int×(List (List Rat))×(List (List Rat)))=>dN (n:Int) s.1 s.2.1 s.2.2) n (fun k=>(List.replicate (n-k) [],az k n iW)) ([],az n n iW) (fun k hk=>by
  unfold dN;obtain⟨d,hd⟩:∃d,n-k=d+1:=⟨n-k-1,by omega⟩;have e1:az k n iW++[List.replicate n (0:Rat)]=az (k+1) n (fun i j=>if i<k then iW i j else 0):=by
   rw[q_]
   congr 1
   ·exact cD fun i j hi _=>by rw[if_pos hi]
   ·congr 1
    apply List.ext_getElem
    ·simp
    ·intro j h1 h2;simp
  have e2:(List.range n).map (fun j=>if k<k then iW k j else(0:Rat))=(List.range n).map ((fun i j=>if i<k then iW i j else(0:Rat)) k):=rfl;rw[if_pos (decide_eq_true (by simp;omega)),aQ (by omega),aQ (by rw[aP]),hd,List.replicate_succ];have e0:ix (([]:List Rat)::List.replicate d []) 0=some []:=rfl;rw[e0,Option.bind_some,Int.toNat_natCast,e1,bp (by omega),Option.bind_some,ou,Option.bind_some,cy hk,Option.bind_some,List.tail_cons,cI hk (by omega)];rw[show n-(k+1)=d by omega];have e3:=ue (n:=k+1) (m:=n) (f:=fun i j=>if i<k then iW i j else(0:Rat)) (k:=k) (j:=k) (v:=1);rw[e3,cD (g:=iW) (fun i j hi _=>by
   by_cases e:i=k/\j=k
   ·rw[if_pos e,e.1,e.2];unfold iW;rw[if_pos rfl]
   ·rw[if_neg e];by_cases e4:i<k
    ·rw[if_pos e4]
    ·rw[if_neg e4];unfold iW;rw[if_neg (by omega)])]) (by
  unfold dN;rw[if_neg (by simp),Nat.sub_self];rfl)
 rw[Nat.sub_zero]at hL;exact hL
theorem ts{i k:Nat}{c:Rat}(hi:i<n)(hk:k<n)(hn:n<=6)(hb:kE b B)(hc:sz c<=4*B+4)(hB:B<=1000000000):k_ (i:Int) (k:Int) c (az n n b)=some ((List.range n).map fun j=>b i j+c*b k j):=by
 unfold k_ n7;rw[bp hi,Option.bind_some,bp hk,Option.bind_some,Int.toNat_natCast,Dw hi,Option.bind_some,aQ (by simp;omega),Option.bind_some,List.drop_zero];have hL:=fz (body:=fun(s:Int×(List Rat))=>gi ((List.range n).map (b k)) c ((List.range n).map (b i)) s.1 s.2) n (fun q=>(List.range n).map fun j=>if j<q then b i j+c*b k j else b i j) ((List.range n).map fun j=>if j<n then b i j+c*b k j else b i j) (fun q hq=>by
  unfold gi;have h1:=hb k q;have h2:=hb i q;have h3:=gW c (b k q);rw[if_pos (decide_eq_true (by simp;omega)),cy hq,Option.bind_some,if_neg (by omega),cy hq,Option.bind_some,kl (show di c by unfold di;omega) (show di (b k q)by unfold di;omega),Option.bind_some,n5 (show di (b i q)by unfold di;omega) (show di (c*b k q)by unfold di;omega),Option.bind_some,cI hq (by omega),Int.toNat_natCast]
  congr 3
  apply List.ext_getElem
  ·simp
  ·intro j h4 h5;rw[List.length_set,List.length_map,List.length_range]at h4;by_cases e:j=q
   ·subst e;rw[List.getElem_set_self];simp
   ·rw[List.getElem_set_ne (Ne.symm e)];simp only[List.getElem_map,List.getElem_range];by_cases e2:j<q
    ·rw[if_pos e2,if_pos (by omega)]
    ·rw[if_neg e2,if_neg (by omega)]) (by
  unfold gi;rw[if_neg (by simp)])
 have e0:(List.range n).map (b i)=(List.range n).map fun j=>if j<0 then b i j+c*b k j else b i j:=by
  apply List.map_congr_left;intro j _;rw[if_neg (by omega)]
 rw[←e0]at hL;have:Loop (fun(s:Int×(List Rat))=>gi ((List.range n).map (b k)) c ((List.range n).map (b i)) s.1 s.2) (0,(List.range n).map (b i))=_:=hL;rw[this,Option.bind_some,Option.bind_some]
 congr 1
 apply List.map_congr_left;intro j hj;rw[if_pos (by simpa using hj)]
end Go.Am
namespace Go.Am
variable {n:Nat} {f b S A:Nat->Nat->Rat} {B:Nat}
theorem Dj(n k i:Int)(c:Rat):g_ n k i c=cN k n i c:=rfl
def kI(f:Nat->Nat->Rat)(k i i' j:Nat):Rat:=if k<i'/\i'<i/\k<j then f i' j-f i' k/f k k*f k j else f i' j
theorem yD{k i:Nat}(hf:kE f B):kE (kI f k i) (4*B+4):=fun i' j=>by
 have h1:=hf i' j;unfold kI
 split
 ·have h2:=hf i' k;have h3:=hf k k;have h4:=hf k j;have h5:=i4 (f i' k) (f k k);have h6:=gW (f i' k/f k k) (f k j);have h7:=px (f i' j) (f i' k/f k k*f k j);omega
 ·omega
theorem rB{k i j:Nat}:kI f k i k j=f k j:=by unfold kI;rw[if_neg (by omega)]
theorem uD{k i j:Nat}:kI f k i i j=f i j:=by unfold kI;rw[if_neg (by omega)]
theorem AA{x:Rat}:(wJ x !=0)=true↔x≠0:=tV
theorem oR{x:Rat}:(wJ x==0)=true↔x=0:=by rw[beq_iff_eq,oU]
theorem tw{x:Rat}:wJ x<0↔x<0:=by unfold wJ;grind
theorem JM{k:Nat}(hk:k<n)(hn:n<=6)(hf:kE f B)(hB:4*B+4<=1000000000)(h0:f k k≠0):
  Loop (fun(s:Int×(List (List Rat)))=>cB (n:Int) (k:Int) s.1 s.2) (((k+1:Nat):Int),az n n f)=some (az n n (kI f k n)):=by
 have hL:=nN (body:=fun(s:Int×(List (List Rat)))=>cB (n:Int) (k:Int) s.1 s.2) (k+1) n (fun i=>az n n (kI f k i)) (az n n (kI f k n)) hk (fun i hki hi=>by
  unfold cB;have h1:=hf i k;have h2:=hf k k;have h3:=i4 (f i k) (f k k);rw[if_pos (decide_eq_true (by omega)),bp hk,Option.bind_some,cy hk,Option.bind_some,rB,cW,Option.bind_some,if_pos (AA.2 h0)];simp only[bp hi,bp hk,cy hk,Option.bind_some,uD,rB];rw[k8 h0 (show di (f i k)by unfold di;omega) (show di (f k k)by unfold di;omega),Option.bind_some,cI hk (by omega)];rw[Dj,ui hk hi (by omega) (by omega) (by omega) (yD hf) (by omega) hB,Option.bind_some,Option.bind_some,cI hi (by omega)];rw[cD (g:=kI f k (i+1)) (fun i' j _ _=>by
   rw[uD,rB];unfold kI;by_cases e:i'=i/\k+1<=j
   ·rw[if_pos e,if_pos (by omega),e.1]
   ·rw[if_neg e];by_cases e2:k<i'/\i'<i/\k<j
    ·rw[if_pos e2,if_pos (by omega)]
    ·rw[if_neg e2,if_neg (by omega)])]) (by
  unfold cB;rw[if_neg (by simp)])
 have e0:az n n f=az n n (kI f k (k+1)):=cD fun i j _ _=>by unfold kI;rw[if_neg (by omega)]
 rw[e0];exact hL
theorem I9{k:Nat}(hk:k<n)(h0:f k k=0):Loop (fun(s:Int×(List (List Rat)))=>cB (n:Int) (k:Int) s.1 s.2) (((k+1:Nat):Int),az n n f)=some (az n n f):=by
 refine bW (body:=fun(s:Int×(List (List Rat)))=>cB (n:Int) (k:Int) s.1 s.2) ?_;show cB (n:Int) (k:Int) _ _=_;unfold cB;by_cases h:k+1<n
 ·rw[if_pos (decide_eq_true (by omega)),bp hk,Option.bind_some,cy hk,Option.bind_some,cW,Option.bind_some,if_neg (by rw[AA];exact fun h=>h h0)]
 ·rw[if_neg (by rw[decide_eq_true_eq];omega)]
def xC(b f:Nat->Nat->Rat)(k i i' j:Nat):Rat:=if k<i'/\i'<i then b i' j+-(f i' k/f k k)*b k j else b i' j
theorem Er{k i:Nat}(hf:kE f B)(hb:kE b B):kE (xC b f k i) (4*B+4):=fun i' j=>by
 have h1:=hb i' j;unfold xC
 split
 ·have h2:=hf i' k;have h3:=hf k k;have h4:=hb k j;have h5:=i4 (f i' k) (f k k);have h6:=gW (-(f i' k/f k k)) (b k j);have h7:=kC (b i' j) (-(f i' k/f k k)*b k j);rw[l5]at h6;omega
 ·omega
theorem GI{k i j:Nat}:xC b f k i k j=b k j:=by unfold xC;rw[if_neg (by omega)]
theorem D3{k i j:Nat}:xC b f k i i j=b i j:=by unfold xC;rw[if_neg (by omega)]
theorem IQ{k:Nat}(hk:k<n)(hn:n<=6)(hf:kE f B)(hb:kE b B)(hB:4*B+4<=100000000)(h0:f k k≠0):
  Loop (fun(s:Int×(List (List Rat)))=>bz (n:Int) (k:Int) (az n n f) s.1 s.2) (((k+1:Nat):Int),az n n b)=some (Ex.cd (az n n (nb b f k))):=by
 have hL:=nN (body:=fun(s:Int×(List (List Rat)))=>bz (n:Int) (k:Int) (az n n f) s.1 s.2) (k+1) n (fun i=>az n n (xC b f k i)) (Ex.cd (az n n (xC b f k n))) hk (fun i hki hi=>by
  unfold bz;have h1:=hf i k;have h2:=hf k k;have h3:=i4 (f i k) (f k k);rw[if_pos (decide_eq_true (by omega)),bp hi,Option.bind_some,cy hk,Option.bind_some,cW,Option.bind_some];by_cases hz:f i k=0
  ·rw[if_pos (oR.2 hz),Option.bind_some];simp only;rw[cI hi (by omega),cD (g:=xC b f k (i+1)) (fun i' j _ _=>by
    unfold xC;by_cases e:i'=i
    ·subst e;rw[if_neg (by omega),if_pos (by omega),hz,Rat.div_def];grind
    ·by_cases e2:k<i'/\i'<i
     ·rw[if_pos e2,if_pos (by omega)]
     ·rw[if_neg e2,if_neg (by omega)])]
  ·rw[if_neg (by rw[oR];exact hz),bp hk,Option.bind_some,cy hk,Option.bind_some,cW,Option.bind_some,if_neg (by rw[oR];exact h0)];simp only[bp hi,bp hk,cy hk,Option.bind_some];rw[k8 h0 (show di (f i k)by unfold di;omega) (show di (f k k)by unfold di;omega),Option.bind_some,show pg (f i k/f k k)=some (-(f i k/f k k))from rfl,Option.bind_some,
    ts hi hk hn (Er hf hb) (by rw[l5];omega) (by omega)]
   simp only[Option.bind_some];rw[cI hi (by omega),Int.toNat_natCast,og,cD (g:=xC b f k (i+1)) (fun i' j _ _=>by
    rw[D3,GI];unfold xC;by_cases e:i'=i
    ·subst e;rw[if_pos rfl,if_pos (by omega)]
    ·rw[if_neg e];by_cases e2:k<i'/\i'<i
     ·rw[if_pos e2,if_pos (by omega)]
     ·rw[if_neg e2,if_neg (by omega)])]) (by
  unfold bz;rw[if_neg (by simp)])
 have e0:az n n b=az n n (xC b f k (k+1)):=cD fun i j _ _=>by unfold xC;rw[if_neg (by omega)]
 have e1:az n n (xC b f k n)=az n n (nb b f k):=cD fun i j hi _=>by
  unfold xC nb;by_cases e:k<i
  ·rw[if_pos ⟨e,hi⟩,if_pos e]
  ·rw[if_neg (fun h=>e h.1),if_neg e]
 rw[e0,←e1];exact hL
def uZ(f:Nat->Nat->Rat)(k i:Nat):Rat:=-((f i i+1)/(f i k+f i k))
theorem Jl{k:Nat}(hk:k<n)(hn:n<=6)(hf:kE f B)(hb:kE b B)(hB:4*B+4<=100000000)(h0:f k k=0):∀d i,n-i=d->k<i->i<=n->
  Loop (fun(s:Int×(List (List Rat)))=>bz (n:Int) (k:Int) (az n n f) s.1 s.2) ((i:Int),az n n b)=
   some (if da f k n i<n then Ex.ret (false,(List.range n).map (fun j=>b (da f k n i) j+uZ f k (da f k n i)*b k j),0)else Ex.cd (az n n b)):=by
 intro d
 induction d with
 |zero=>
  intro i hd hki hi;rw[jX (by omega),if_neg (by omega)];refine bW (body:=fun(s:Int×(List (List Rat)))=>bz (n:Int) (k:Int) (az n n f) s.1 s.2) ?_;show bz _ _ _ (i:Int) _=_;unfold bz;rw[if_neg (by rw[decide_eq_true_eq];omega)]
 |succ d ih=>
  intro i hd hki hi;have hlt:i<n:=by omega
  rw[gS hlt];by_cases hz:f i k=0
  ·rw[if_pos hz];have hbd:bz (n:Int) (k:Int) (az n n f) (i:Int) (az n n b)=some (.next (((i+1:Nat):Int),az n n b)):=by
    unfold bz;rw[if_pos (decide_eq_true (by omega)),bp hlt,Option.bind_some,cy hk,Option.bind_some,cW,Option.bind_some,if_pos (oR.2 hz),Option.bind_some];simp only;rw[cI hlt (by omega)]
   rw[dt (body:=fun(s:Int×(List (List Rat)))=>bz (n:Int) (k:Int) (az n n f) s.1 s.2) hbd];exact ih (i+1) (by omega) (by omega) hlt
  ·rw[if_neg hz,if_pos hlt];refine bW (body:=fun(s:Int×(List (List Rat)))=>bz (n:Int) (k:Int) (az n n f) s.1 s.2) ?_;show bz _ _ _ (i:Int) _=_;unfold bz;have h1:=hf i k;have h2:=hf i i;have s1:sz (1:Rat)<=1:=by decide+kernel
   have h3:=kC (f i i) 1;have h4:=kC (f i k) (f i k);have h5:=i4 (f i i+1) (f i k+f i k);have hd0:f i k+f i k≠0:=by grind
   rw[if_pos (decide_eq_true (by omega)),bp hlt,Option.bind_some,cy hk,Option.bind_some,cW,Option.bind_some,if_neg (by rw[oR];exact hz),bp hk,Option.bind_some,cy hk,Option.bind_some,cW,Option.bind_some,if_pos (oR.2 h0)];simp only[bp hlt,bp hk,cy hk,cy hlt,Option.bind_some,ou];rw[n5 (show di (f i i)by unfold di;omega) (show di 1 by decide+kernel),Option.bind_some,n5 (show di (f i k)by unfold di;omega) (show di (f i k)by unfold di;omega),Option.bind_some,
    k8 hd0 (show di (f i i+1)by unfold di;omega) (show di (f i k+f i k)by unfold di;omega),Option.bind_some,show pg ((f i i+1)/(f i k+f i k))=some (uZ f k i)from rfl,Option.bind_some,
    ts hlt hk hn hb (by unfold uZ;rw[l5];omega) (by omega),Option.bind_some,Option.bind_some]
theorem yg(k d:Nat):List.range' k (d+1)=k::List.range' (k+1) d:=by rw[List.range'_succ]
theorem ri(hn:n<=6):∀d k (f b S:Nat->Nat->Rat),n-k=d->k<=n->kE f (300*8^k)->kE b (300*8^k)->symm S->(∀i j,k<=i->i<n->k<=j->j<n->f i j=S i j)->(∀i j,k<=i->i<n->k<=j->j<n->Qf n A (b i) (b j)=S i j)->
  (Loop (fun(s:Int×(List (List Rat))×(List (List Rat)))=>bh (n:Int) s.1 s.2.1 s.2.2) ((k:Int),az n n f,az n n b)=some (Ex.cd ())/\yI (List.range' k (n-k)) S)\/
  ∃w:Nat->Rat,Loop (fun(s:Int×(List (List Rat))×(List (List Rat)))=>bh (n:Int) s.1 s.2.1 s.2.2) ((k:Int),az n n f,az n n b)=some (Ex.ret (false,(List.range n).map w,0))/\Qf n A w w<0/\∀j,sz (w j)<=5*(300*8^(n-1))+5
 |0,k,f,b,S,hd,hk,hf,hb,hs,hfS,hQ=>by
  refine .inl ⟨bW (body:=fun(s:Int×(List (List Rat))×(List (List Rat)))=>bh (n:Int) s.1 s.2.1 s.2.2) ?_,fun x=>by rw[hd];show(0:Rat)<=0;exact Rat.le_refl⟩;show bh (n:Int) (k:Int) _ _=_;unfold bh;rw[if_neg (by rw[decide_eq_true_eq];omega)]
 |d+1,k,f,b,S,hd,hk,hf,hb,hs,hfS,hQ=>by
  have hlt:k<n:=by omega
  have hkk:=hfS k k (Nat.le_refl _) hlt (Nat.le_refl _) hlt;have hB:300*8^k<=9830400:=by
   have:300*8^k<=300*8^5:=zc (by omega);have e:(300:Nat)*8^5=9830400:=by decide
   omega
  have hnext:4*(300*8^k)+4<=300*8^(k+1):=by
   rw[Nat.pow_succ];have:0<8^k:=Nat.pow_pos (by decide);omega
  have hnd:n-(k+1)=d:=by omega
  have hkn:300*8^k<=300*8^(n-1):=zc (by omega);rw[hd,yg];by_cases hneg:f k k<0
  ·refine .inr ⟨b k,bW (body:=fun(s:Int×(List (List Rat))×(List (List Rat)))=>bh (n:Int) s.1 s.2.1 s.2.2) ?_,by rw[hQ k k (Nat.le_refl _) hlt (Nat.le_refl _) hlt,←hkk];exact hneg,fun j=>Nat.le_trans (hb k j) (by omega)⟩;show bh (n:Int) (k:Int) _ _=_;unfold bh;rw[if_pos (decide_eq_true (by omega)),bp hlt,Option.bind_some,cy hlt,Option.bind_some,cW,Option.bind_some,if_pos (decide_eq_true (tw.2 hneg)),bp hlt,Option.bind_some,Option.bind_some]
  ·have hsg:¬(decide (wJ (f k k)<0))=true:=by rw[decide_eq_true_eq,tw];exact hneg
   by_cases h0:f k k=0
   ·have hv:=Jl hlt hn hf hb (by omega) h0 (n-(k+1)) (k+1) rfl (by omega) hlt;have hge:=qh (f:=f) (k:=k) (n:=n) (n-(k+1)) (k+1) rfl;by_cases hat:da f k n (k+1)<n
    ·have hne:=mQ (f:=f) (k:=k) (n:=n) (n-(k+1)) (k+1) rfl hat;rw[if_pos hat]at hv;generalize da f k n (k+1)=i at*;refine .inr ⟨fun j=>b i j+uZ f k i*b k j,bW (body:=fun(s:Int×(List (List Rat))×(List (List Rat)))=>bh (n:Int) s.1 s.2.1 s.2.2) ?_,?_,fun j=>?_⟩
     ·show bh (n:Int) (k:Int) _ _=_;unfold bh;rw[if_pos (decide_eq_true (by omega)),bp hlt,Option.bind_some,cy hlt,Option.bind_some,cW,Option.bind_some,if_neg hsg,cI hlt (by omega),hv,Option.bind_some,Option.bind_some,Option.bind_some]
     ·rw[Bc,qG,qG,hQ i i (by omega) hat (by omega) hat,hQ i k (by omega) hat (by omega) hlt,hQ k i (by omega) hlt (by omega) hat,hQ k k (by omega) hlt (by omega) hlt,←hkk,h0,hs k i,←hfS i k (by omega) hat (by omega) hlt,←hfS i i (by omega) hat (by omega) hat];unfold uZ;have hd0:f i k+f i k≠0:=by grind
      have h1:(f i i+1)/(f i k+f i k)*(f i k+f i k)=f i i+1:=Rat.div_mul_cancel hd0;generalize (f i i+1)/(f i k+f i k)=x at*
      grind
     ·have h1:=hf i k;have h2:=hf i i;have s1:sz (1:Rat)<=1:=by decide+kernel
      have h3:=kC (f i i) 1;have h4:=kC (f i k) (f i k);have h5:=i4 (f i i+1) (f i k+f i k);have h6:=gW (uZ f k i) (b k j);have h7:=kC (b i j) (uZ f k i*b k j);have h8:=hb i j;have h9:=hb k j;show sz (b i j+uZ f k i*b k j)<=_;have e:sz (uZ f k i)=sz ((f i i+1)/(f i k+f i k)):=by unfold uZ;rw[l5]
      omega
    ·have hall:=oY (f:=f) (k:=k) (n:=n) (n-(k+1)) (k+1) rfl hat;rw[if_neg hat]at hv;have hrow:∀i,k<i->i<n->S k i=0:=fun i h1 h2=>by rw[hs,←hfS i k (by omega) h2 (by omega) hlt];exact hall i h1 h2
     have hb1:bh (n:Int) (k:Int) (az n n f) (az n n b)=some (.next (((k+1:Nat):Int),az n n f,az n n b)):=by
      unfold bh;rw[if_pos (decide_eq_true (by omega)),bp hlt,Option.bind_some,cy hlt,Option.bind_some,cW,Option.bind_some,if_neg hsg,cI hlt (by omega),hv,Option.bind_some,Option.bind_some];simp only;rw[I9 hlt h0,Option.bind_some,Option.bind_some]
     rw[dt (body:=fun(s:Int×(List (List Rat))×(List (List Rat)))=>bh (n:Int) s.1 s.2.1 s.2.2) hb1];rcases ri hn d (k+1) f b S (by omega) hlt (fun i j=>Nat.le_trans (hf i j) (by omega)) (fun i j=>Nat.le_trans (hb i j) (by omega)) hs (fun i j h1 h2 h3 h4=>hfS i j (by omega) h2 (by omega) h4) (fun i j h1 h2 h3 h4=>hQ i j (by omega) h2 (by omega) h4)with⟨g1,g2⟩|g
     ·refine .inl ⟨g1,x6 hs (by rw[←hkk];exact h0) (fun i hi=>?_) (by rw[hnd]at g2;exact g2)⟩;rw[List.mem_range'_1]at hi;exact hrow i (by omega) (by omega)
     ·exact .inr g
   ·have hpos:0<S k k:=by rw[←hkk];grind
    have hv:=IQ hlt hn hf hb (by omega) h0;have hb1:bh (n:Int) (k:Int) (az n n f) (az n n b)=some (.next (((k+1:Nat):Int),az n n (kI f k n),az n n (nb b f k))):=by
     unfold bh;rw[if_pos (decide_eq_true (by omega)),bp hlt,Option.bind_some,cy hlt,Option.bind_some,cW,Option.bind_some,if_neg hsg,cI hlt (by omega),hv,Option.bind_some,Option.bind_some];simp only;rw[JM hlt hn hf (by omega) h0,Option.bind_some,Option.bind_some]
    rw[dt (body:=fun(s:Int×(List (List Rat))×(List (List Rat)))=>bh (n:Int) s.1 s.2.1 s.2.2) hb1];have hnbs:kE (nb b f k) (300*8^(k+1)):=fun i j=>by
     have h1:=Er (k:=k) (i:=i+1) hf hb i j;have e:xC b f k (i+1) i j=nb b f k i j:=by
      unfold xC nb;by_cases e:k<i
      ·rw[if_pos ⟨e,by omega⟩,if_pos e]
      ·rw[if_neg (fun h=>e h.1),if_neg e]
     rw[e]at h1;omega
    rcases ri hn d (k+1) (kI f k n) (nb b f k) (me S k) (by omega) hlt (fun i j=>Nat.le_trans (yD hf i j) hnext) hnbs (pM hs) (fun i j h1 h2 h3 h4=>by
      unfold kI me;rw[if_pos ⟨by omega,h2,by omega⟩,hfS i j (by omega) h2 (by omega) h4,hfS i k (by omega) h2 (by omega) hlt,hkk,hfS k j (by omega) hlt (by omega) h4])
     (fun i j h1 h2 h3 h4=>JJ hs (by rw[←hkk];exact h0) (fun i h1 h2=>hfS i k h1 h2 (Nat.le_refl _) hlt) hlt hQ (by omega) h2 (by omega) h4)with⟨g1,g2⟩|g
    ·exact .inl ⟨g1,vN hs hpos (by rw[hnd]at g2;exact g2)⟩
    ·exact .inr g
theorem FL(f:Nat->Nat->Rat)(hn:n<=6)(hf:kE f 300):
  (¬Ev n f/\dm (az n n f)=some (false,[],2)/\fE (az n n f)=some false)\/
  (Ev n f/\fE (az n n f)=some true/\((dm (az n n f)=some (true,[],0)/\(symm f->yI (List.range n) f))\/
   ∃w:Nat->Rat,dm (az n n f)=some (false,(List.range n).map w,0)/\(symm f->Qf n f w w<0)/\∀j,sz (w j)<=5*(300*8^(n-1))+5)):=by
 have hc:gE (az n n f)=n:=by
  by_cases h:n=0
  ·subst h;rfl
  ·exact oX (by omega)
 have hrl:∀r∈az n n f,r.length<=30:=fun r hr=>by rw[mR hr];omega
 rcases AO hn hf n 0 rfl (Nat.zero_le _)with⟨h1,h2,h3⟩|⟨h1,h2,h3⟩
 ·have h1':Loop (fun(s:Int)=>bR (az n n f) s) 0=some (Ex.cd ()):=h1;have h2':Loop (fun(s:Int)=>ca (az n n f) s) 0=some (Ex.cd ()):=h2;have hsy:Ev n f:=fun i j hj hi=>h3 i (Nat.zero_le _) hi j hj;refine .inr ⟨hsy,by unfold fE;rw[h2'];rfl,?_⟩
  -- a symmetric form that is the same on the rows and columns
  let S:Nat->Nat->Rat:=fun i j=>if i<n/\j<n then f i j else 0
  have hS:symm S:=fun i j=>by
   show(if i<n/\j<n then f i j else 0)=if j<n/\i<n then f j i else 0;by_cases e:i<n/\j<n
   ·rw[if_pos e,if_pos ⟨e.2,e.1⟩];rcases Nat.lt_trichotomy i j with h|h|h
    ·exact(hsy j i h e.2).symm
    ·subst h;rfl
    ·exact hsy i j h e.1
   ·rw[if_neg e,if_neg (fun h=>e ⟨h.2,h.1⟩)]
  have hfS:∀i j,i<n->j<n->f i j=S i j:=fun i j hi hj=>by show _=if i<n/\j<n then f i j else 0;rw[if_pos ⟨hi,hj⟩]
  have hm:=ri (A:=f) hn n 0 f iW S rfl (Nat.zero_le _) (by simpa using hf) (fun i j=>by
    have:sz (iW i j)<=1:=by unfold iW;split<;>decide+kernel
    rw[Nat.pow_zero];omega) hS (fun i j _ hi _ hj=>hfS i j hi hj) (fun i j _ hi _ hj=>by rw[E5 hi hj];exact hfS i j hi hj)
  have hpre:∀X,Loop (fun(s:Int×(List (List Rat))×(List (List Rat)))=>bh (n:Int) s.1 s.2.1 s.2.2) (0,az n n f,az n n iW)=some X->dm (az n n f)=(match X with|Ex.cd ()=>some (true,[],(0:Int))|Ex.ret (r238,r239,r240)=>some (r238,r239,r240)):=fun X hX=>by
   unfold dm;rw[kO _ (by rw[aP];omega),lS,hc,aP,Option.bind_some];simp only[Bool.not_true,Bool.false_eq_true,if_false];rw[if_neg (by simp),h1',Option.bind_some,Option.bind_some];simp only;rw[rm _ (by rw[aP];omega) hrl,Option.bind_some,aQ (by omega),Int.toNat_natCast,zo hn,Option.bind_some,Option.bind_some];simp only;rw[aQ trivial,hX,Option.bind_some]
   cases X with
   |cd u=>rfl
   |ret r=>rfl
  rcases hm with⟨g1,g2⟩|⟨w,g1,g2,g3⟩
  ·refine .inl ⟨hpre _ g1,fun _ x=>?_⟩;have:=g2 x;rw[Nat.sub_zero,←List.range_eq_range']at this
   rwa [xY (m':=S) (x':=x) (fun i hi j hj=>hfS i j (by simpa using hi) (by simpa using hj)) (fun _ _=>rfl)]
  ·exact .inr ⟨w,hpre _ g1,fun _=>g2,g3⟩
 ·have h1':Loop (fun(s:Int)=>bR (az n n f) s) 0=some (Ex.ret (false,[],2)):=h1;have h2':Loop (fun(s:Int)=>ca (az n n f) s) 0=some (Ex.ret false):=h2;refine .inl ⟨h3,?_,by unfold fE;rw[h2'];rfl⟩;unfold dm;rw[kO _ (by rw[aP];omega),lS,hc,aP,Option.bind_some];simp only[Bool.not_true,Bool.false_eq_true,if_false];rw[if_neg (by simp),h1']
  rfl
end Go.Am
namespace Go.Am
variable {n:Nat} {f:Nat->Nat->Rat}
def mX(s i:Nat):Bool:=s/2^i%2==1
def nD(n s:Nat):List Nat:=(List.range n).filter (mX s)
theorem Et{s k:Nat}(hk:k<=6):Int.tmod (Int.fdiv (s:Int) (2^(min (IntKind.u64.wrap (k:Int)).toNat IntKind.i64.bits))) 2=((s/2^k%2:Nat):Int):=by
 have e1:(IntKind.u64.wrap (k:Int)).toNat=k:=by
  have:k=0\/k=1\/k=2\/k=3\/k=4\/k=5\/k=6:=by omega
  rcases this with h|h|h|h|h|h|h<;>subst h<;>decide
 have e2:min k IntKind.i64.bits=k:=by show min k 64=k;omega
 rw[e1,e2,Int.fdiv_eq_ediv_of_nonneg _ (Int.pow_nonneg (by decide)),Int.tmod_eq_emod_of_nonneg (Int.ediv_nonneg (by omega) (Int.pow_nonneg (by decide)))];simp
theorem xc{k:Nat}(hk:k<=6):(0:Int)<=IntKind.u64.wrap (k:Int):=by
 have:k=0\/k=1\/k=2\/k=3\/k=4\/k=5\/k=6:=by omega
 rcases this with h|h|h|h|h|h|h<;>subst h<;>decide
theorem yS{k:Nat}(hk:k<=6):IntKind.i64.wrap (1*2^(min (IntKind.u64.wrap (k:Int)).toNat IntKind.i64.bits))=((2^k:Nat):Int):=by
 have:k=0\/k=1\/k=2\/k=3\/k=4\/k=5\/k=6:=by omega
 rcases this with h|h|h|h|h|h|h<;>subst h<;>decide
theorem Ft{s k:Nat}(hk:k<=6):(Int.tmod (Int.fdiv (s:Int) (2^(min (IntKind.u64.wrap (k:Int)).toNat IntKind.i64.bits))) 2==1)=mX s k:=by
 rw[Et hk];unfold mX;rw[Bool.eq_iff_iff,beq_iff_eq,beq_iff_eq];omega
theorem EE{s k:Nat}(hk:k<=6):(Int.tmod (Int.fdiv (s:Int) (2^(min (IntKind.u64.wrap (k:Int)).toNat IntKind.i64.bits))) 2==0)= !mX s k:=by
 rw[Et hk];unfold mX;rw[Bool.eq_iff_iff,Bool.not_eq_true',beq_iff_eq,beq_eq_false_iff_ne];have:s/2^k%2<2:=Nat.mod_lt _ (by decide);omega
theorem sw{p:Nat->Bool}{k:Nat}:(List.range (k+1)).filter p=(List.range k).filter p++(if p k then [k]else []):=by
 rw[List.range_succ,List.filter_append]
 congr 1
 by_cases h:p k=true
 ·simp[h]
 ·simp[h]
theorem pQ{p:Nat->Bool}{k:Nat}:((List.range k).filter p).length<=k:=by
 have:=List.length_filter_le p (List.range k)
 rwa [List.length_range]at this
theorem F8{s i:Nat}(hi:i<n)(hn:n<=6):Loop (fun(t:Int×(List Rat))=>dv (az n n f) (s:Int) (i:Int) t.1 t.2) (0,([]:List Rat))=some ((nD n s).map (f i)):=by
 have hL:=fz (body:=fun(t:Int×(List Rat))=>dv (az n n f) (s:Int) (i:Int) t.1 t.2) n (fun k=>((List.range k).filter (mX s)).map (f i)) ((nD n s).map (f i)) (fun k hk=>by
  unfold dv;have hl:=pQ (p:=mX s) (k:=k);rw[aP,if_pos (decide_eq_true (by omega)),aQ (xc (by omega)),Ft (by omega),sw];by_cases h:mX s k=true
  ·rw[if_pos h,if_pos h,bp hi,Option.bind_some,cy hk,Option.bind_some,aQ (by simp only[List.length_map,List.length_singleton];omega),Option.bind_some,cI hk (by omega),List.map_append];rfl
  ·rw[if_neg h,if_neg h,Option.bind_some,cI hk (by omega),List.append_nil]) (by
  unfold dv;rw[aP,if_neg (by simp)];rfl)
 exact hL
theorem GM{s:Nat}(hn:n<=6):Loop (fun(t:Int×(List (List Rat)))=>dw (az n n f) (s:Int) t.1 t.2) (0,([]:List (List Rat)))=some ((nD n s).map fun i=>(nD n s).map (f i)):=by
 have hL:=fz (body:=fun(t:Int×(List (List Rat)))=>dw (az n n f) (s:Int) t.1 t.2) n (fun k=>((List.range k).filter (mX s)).map fun i=>(nD n s).map (f i)) ((nD n s).map fun i=>(nD n s).map (f i)) (fun k hk=>by
  unfold dw;have hl:=pQ (p:=mX s) (k:=k);rw[aP,if_pos (decide_eq_true (by omega)),aQ (xc (by omega)),EE (by omega),sw];by_cases h:mX s k=true
  ·rw[if_neg (by simp[h]),if_pos h,F8 hk hn,Option.bind_some,Option.bind_some,aQ (by simp only[List.length_map];omega),Option.bind_some,cI hk (by omega),List.map_append];rfl
  ·rw[if_pos (by simpa using h),if_neg h,Option.bind_some,cI hk (by omega),List.append_nil]) (by
  unfold dw;rw[aP,if_neg (by simp)];rfl)
 exact hL
theorem Cn{T:List Nat}:(T.map fun i=>T.map (f i))=az T.length T.length (pick T f):=by
 apply List.ext_getElem
 ·rw[aP,List.length_map]
 ·intro i h1 h2;rw[List.length_map]at h1;simp only[az,List.getElem_map,List.getElem_range];apply List.ext_getElem
  ·simp
  ·intro j h3 h4;rw[List.length_map]at h3;simp only[List.getElem_map,List.getElem_range];unfold pick;rw[h_ h1,h_ h3]
theorem Fa{T:List Nat}{B:Nat}(hf:kE f B):kE (pick T f) B:=fun i j=>hf _ _
def pO(n s:Nat)(f:Nat->Nat->Rat):Rat:=iF (nD n s).length (pick (nD n s) f)
theorem CP(hn:n<=6)(hf:kE f 300):∀d s:Nat,2^n-s=d->s<=2^n->
  (Loop (fun(t:Int)=>bE (az n n f) t) (s:Int)=some (Ex.cd ())/\∀s',s<=s'->s'<2^n->0<=pO n s' f)\/
  (Loop (fun(t:Int)=>bE (az n n f) t) (s:Int)=some (Ex.ret false)/\∃s',s<=s'/\s'<2^n/\pO n s' f<0):=by
 intro d;have hpn:2^n<=64:=Nat.pow_le_pow_right (by decide) hn
 induction d with
 |zero=>
  intro s hd hs;have:s=2^n:=by omega
  subst this;refine .inl ⟨bW (body:=fun(t:Int)=>bE (az n n f) t) ?_,fun s' h1 h2=>by omega⟩;unfold bE;rw[aP,aQ (xc hn),yS hn,if_neg (by simp)]
 |succ d ih=>
  intro s hd hs;have hlt:s<2^n:=by omega
  have hl:=pQ (p:=mX s) (k:=n);obtain⟨_,hD,hDs⟩:=Es (n:=(nD n s).length) (pick (nD n s) f) (by unfold nD;omega) (Fa hf);have key:∀X,(if decide (wJ (pO n s f)<0)=true then some (St.done (Ex.ret false))else some (St.next (IntKind.i64.wrap ((s:Int)+1))))=X->bE (az n n f) (s:Int)=X:=by
   intro X hX;unfold bE;rw[aP,aQ (xc hn),yS hn,if_pos (decide_eq_true (by omega)),GM hn,Option.bind_some,Option.bind_some,Cn,hD,Option.bind_some,cW,Option.bind_some];exact hX
  by_cases hneg:pO n s f<0
  ·refine .inr ⟨bW (body:=fun(t:Int)=>bE (az n n f) t) (key _ (by rw[if_pos (decide_eq_true (tw.2 hneg))])),s,Nat.le_refl _,hlt,hneg⟩
  ·have hb:bE (az n n f) (s:Int)=some (.next ((s+1:Nat):Int)):=key _ (by rw[if_neg (by rw[decide_eq_true_eq,tw];exact hneg),cI hlt (by omega)]);rw[dt (body:=fun(t:Int)=>bE (az n n f) t) hb];rcases ih (s+1) (by omega) hlt with⟨h1,h2⟩|⟨h1,s',h2,h3,h4⟩
   ·refine .inl ⟨h1,fun s' h3 h4=>?_⟩;by_cases e:s'=s
    ·subst e;grind
    ·exact h2 s' (by omega) h4
   ·exact .inr ⟨h1,s',by omega,h3,h4⟩
theorem Ay(p:Nat->Bool):∀n,∃s,s<2^n/\∀i,i<n->mX s i=p i
 |0=>⟨0,by decide,fun i hi=>by omega⟩
 |n+1=>by
  obtain⟨s,hs,hb⟩:=Ay p n;have hp:0<2^n:=Nat.pow_pos (by decide);by_cases h:p n=true
  ·refine⟨s+2^n,by rw[Nat.pow_succ];omega,fun i hi=>?_⟩;by_cases e:i=n
   ·subst e;unfold mX;rw[Nat.add_div_right _ hp,Nat.div_eq_of_lt hs,h]
    decide
   ·have du:i<n:=by omega
    rw[←hb i du];unfold mX;have e2:2^n=2^i*(2*2^(n-i-1)):=by
     rw[←Nat.pow_succ',←Nat.pow_add];congr 1;omega
    rw[e2,Nat.add_mul_div_left _ _ (Nat.pow_pos (by decide)),Nat.add_mul_mod_self_left]
  ·refine⟨s,by rw[Nat.pow_succ];omega,fun i hi=>?_⟩;by_cases e:i=n
   ·subst e;unfold mX;rw[Nat.div_eq_of_lt hs];simpa using h
   ·exact hb i (by omega)
theorem vn{T l:List Nat}(h:T.Sublist l)(hn:l.Nodup):l.filter (fun x=>decide (x∈T))=T:=by
 induction h with
 |slnil=>rfl
 |@cons T l a h ih=>
  rw[List.nodup_cons]at hn;have:a∉T:=fun ha=>hn.1 (h.subset ha);rw[List.filter_cons_of_neg (by simpa using this)];exact ih hn.2
 |@cons_cons T l a h ih=>
  rw[List.nodup_cons]at hn;rw[List.filter_cons_of_pos (by simp)]
  congr 1
  rw[←ih hn.2];apply List.filter_congr;intro x hx;have:x≠a:=fun e=>hn.1 (e▸hx);rw[ih hn.2];simp[this]
theorem ye:minors (List.range n) f↔∀s,1<=s->s<2^n->0<=pO n s f:=by
 constructor
 ·intro h s hs hlt;refine h (nD n s) (List.filter_sublist) (fun e=>?_);have hz:∀i,i<n->mX s i=false:=fun i hi=>by
   cases hb:mX s i with
   |false=>rfl
   |true=>
    have:i∈nD n s:=List.mem_filter.2 ⟨List.mem_range.2 hi,hb⟩;rw[e]at this;cases this
  have key:∀k,k<=n->s%2^k=0:=by
   intro k
   induction k with
   |zero=>intro _;simp[Nat.mod_one]
   |succ k ih=>
    intro hk;have h1:=ih (by omega);have h2:=hz k (by omega);unfold mX at h2;rw[beq_eq_false_iff_ne]at h2;have h3:s/2^k%2=0:=by have:s/2^k%2<2:=Nat.mod_lt _ (by decide);omega
    rw[Nat.pow_succ,Nat.mod_mul,h1,h3];simp
  have:=key n (Nat.le_refl _);rw[Nat.mod_eq_of_lt hlt]at this;omega
 ·intro h T hT hne;obtain⟨s,hs,hb⟩:=Ay (fun x=>decide (x∈T)) n;have e:nD n s=T:=by
   have h1:nD n s=(List.range n).filter (fun x=>decide (x∈T)):=List.filter_congr fun x hx=>hb x (List.mem_range.1 hx);rw[h1,vn hT List.nodup_range]
  have:=h s (Nat.pos_of_ne_zero fun e0=>hne (by
   subst e0;rw[←e];unfold nD;rw[List.filter_eq_nil_iff];intro x _;unfold mX;simp)) hs
  unfold pO at this
  rwa [e]at this
theorem yi{T l:List Nat}(h:T.Sublist l)(hn:l.Nodup){g:Nat->Rat}(hg:∀i∈l,i∉T->g i=0):cr l g=cr T g:=by
 induction h with
 |slnil=>rfl
 |@cons T l a h ih=>
  rw[List.nodup_cons]at hn;have ha:a∉T:=fun ha=>hn.1 (h.subset ha);show g a+cr l g=_;rw[hg a List.mem_cons_self ha,ih hn.2 (fun i hi hiT=>hg i (List.mem_cons_of_mem _ hi) hiT)];grind
 |@cons_cons T l a h ih=>
  rw[List.nodup_cons]at hn;show g a+cr l g=g a+cr T g;rw[ih hn.2 (fun i hi hiT=>hg i (List.mem_cons_of_mem _ hi) (fun hm=>(List.mem_cons.1 hm).elim (fun e=>hn.1 (e▸hi)) hiT))]
theorem FZ{T l:List Nat}(h:T.Sublist l)(hn:l.Nodup)(hp:yI l f):yI T f:=fun x=>by
 have h1:=hp (fun i=>if i∈T then x i else 0);have e:qf l f (fun i=>if i∈T then x i else 0)=qf T f x:=by
  unfold qf;rw[yi h hn (fun i _ hi=>iI fun j _=>by simp only[hi,if_false];grind)];refine bD fun i hi=>?_;rw[yi h hn (fun j _ hj=>by simp only[hj,if_false];grind)];exact bD fun j hj=>by simp only[hi,hj,if_true]
 rwa [e]at h1
theorem Bf(hs:symm f):yI (List.range n) f↔∀s,1<=s->s<2^n->0<=pO n s f:=by
 constructor
 ·intro h s _ _;exact Bl (nD n s) f (List.Pairwise.filter _ List.nodup_range) hs (FZ List.filter_sublist List.nodup_range h)
 ·intro h;exact pL (List.range n) f List.nodup_range hs (ye.2 h)
theorem yP(hs:symm f)(hn:n<=6)(hf:kE f 300):(cK (az n n f)=some true/\yI (List.range n) f)\/(cK (az n n f)=some false/\¬yI (List.range n) f):=by
 have hp:1<=2^n:=Nat.pow_pos (by decide);rcases CP hn hf (2^n-1) 1 rfl hp with⟨h1,h2⟩|⟨h1,s,h2,h3,h4⟩
 ·refine .inl ⟨?_,(Bf hs).2 h2⟩;unfold cK;have:Loop (fun(t:Int)=>bE (az n n f) t) 1=_:=h1;rw[this];rfl
 ·refine .inr ⟨?_,fun hpsd=>?_⟩
  ·unfold cK;have:Loop (fun(t:Int)=>bE (az n n f) t) 1=_:=h1;rw[this];rfl
  ·have:=(Bf hs).1 hpsd s h2 h3
   grind
end Go.Am
namespace Go.Am
variable {n m:Nat} {f g:Nat->Nat->Rat}
theorem oK{l:List Nat}(hn:l.Nodup){a:Nat}(ha:a∈l){g:Nat->Rat}:cr l g=g a+cr l (fun i=>if i=a then 0 else g i):=by
 have h1:cr l (fun i=>if i=a then g i else 0)=g a:=by
  rw[kL hn ha (fun j _ hj=>by rw[if_neg hj]),if_pos rfl]
 rw[←h1,←gO];exact bD fun i _=>by by_cases e:i=a<;>simp[e]<;>grind
def indep(n m:Nat)(f:Nat->Nat->Rat):Prop:=∀c:Nat->Rat,(∀j,j<m->cr (List.range n) (fun i=>c i*f i j)=0)->∀i,i<n->c i=0
theorem uS(h:∀c:Nat->Rat,∃c':Nat->Rat,(∀j,j<m->cr (List.range n) (fun i=>c i*g i j)=cr (List.range n) (fun i=>c' i*f i j))/\((∀i,i<n->c' i=0)->∀i,i<n->c i=0))(hf:indep n m f):indep n m g:=fun c hc=>by
 obtain⟨c',h1,h2⟩:=h c;exact h2 (hf c' (fun j hj=>by rw[←h1 j hj];exact hc j hj))
theorem zi{a b:Nat}(ha:a<n)(hb:b<n)(hf:indep n m f):indep n m (bQ f a b):=by
 refine uS (fun c=>⟨fun i=>if i=b then c a else if i=a then c b else c i,fun j _=>?_,fun h i hi=>?_⟩) hf
 ·by_cases e:a=b
  ·subst e;refine bD fun i _=>?_;unfold bQ;by_cases e1:i=a
   ·simp only[if_pos e1];rw[e1]
   ·simp only[if_neg e1]
  ·have ma:=List.mem_range.2 ha;have mb:=List.mem_range.2 hb;rw[oK List.nodup_range ma,oK List.nodup_range mb (g:=fun i=>if i=a then 0 else c i*bQ f a b i j)];rw[oK List.nodup_range ma (g:=fun i=>(if i=b then c a else if i=a then c b else c i)*f i j),oK List.nodup_range mb (g:=fun i=>if i=a then 0 else(if i=b then c a else if i=a then c b else c i)*f i j)];have e1:bQ f a b a j=f b j:=by unfold bQ;rw[if_neg e,if_pos rfl]
   have e2:bQ f a b b j=f a j:=by unfold bQ;rw[if_pos rfl]
   rw[bD (g:=fun i=>if i=b then 0 else if i=a then 0 else c i*bQ f a b i j) (h:=fun i=>if i=b then 0 else if i=a then 0 else(if i=b then c a else if i=a then c b else c i)*f i j) (fun i _=>by
    by_cases h1:i=b
    ·rw[if_pos h1,if_pos h1]
    ·rw[if_neg h1,if_neg h1];by_cases h2:i=a
     ·rw[if_pos h2,if_pos h2]
     ·rw[if_neg h2,if_neg h2,if_neg h1,if_neg h2];unfold bQ;rw[if_neg h1,if_neg h2])]
   simp only[e1,e2,if_pos rfl,if_neg e,if_neg (Ne.symm e)]
   grind
 ·by_cases e1:i=a
  ·have:=h b hb;dsimp only at this;rw[if_pos rfl]at this;rw[e1];exact this
  ·by_cases e2:i=b
   ·have:=h a ha;dsimp only at this;by_cases e:a=b
    ·exact absurd (e2.trans e.symm) e1
    ·rw[if_neg e,if_pos rfl]at this;rw[e2];exact this
   ·have:=h i hi;dsimp only at this;rw[if_neg e2,if_neg e1]at this;exact this
theorem yR{row:Nat}{s:Rat}(hs:s≠0)(hf:indep n m f):indep n m (eR f row s 0):=by
 refine uS (fun c=>⟨fun i=>if i=row then c i*s else c i,fun j _=>bD fun i _=>?_,fun h i hi=>?_⟩) hf
 ·dsimp only;unfold eR;by_cases e:i=row
  ·rw[if_pos ⟨e,Nat.zero_le _⟩,if_pos e,e];grind
  ·rw[if_neg (fun h=>e h.1),if_neg e]
 ·have:=h i hi;dsimp only at this;by_cases e:i=row
  ·rw[if_pos e]at this;exact(Rat.mul_eq_zero.1 this).resolve_right hs
  ·rwa [if_neg e]at this
def elimM(f:Nat->Nat->Rat)(row k i:Nat):Rat:=if i=row then 0 else f i k
theorem yo{row k i j:Nat}:iV f row k 0 i j=f i j-elimM f row k i*f row j:=by
 unfold iV elimM;by_cases e:i=row
 ·rw[if_neg (fun h=>h.1 e),if_pos e];grind
 ·rw[if_neg e];by_cases e2:f i k=0
  ·rw[if_neg (fun h=>h.2.1 e2),e2];grind
  ·rw[if_pos ⟨e,e2,Nat.zero_le _⟩]
theorem ze{row k:Nat}(hr:row<n)(hf:indep n m f):indep n m (iV f row k 0):=by
 refine uS (fun c=>⟨fun i=>c i+(if i=row then-(cr (List.range n) fun i=>c i*elimM f row k i)else 0),fun j _=>?_,fun h=>?_⟩) hf
 ·have e1:cr (List.range n) (fun i=>c i*iV f row k 0 i j)=cr (List.range n) (fun i=>c i*f i j)+-(f row j)*cr (List.range n) (fun i=>c i*elimM f row k i):=by
   rw[←fj,←gO];exact bD fun i _=>by rw[yo];grind
  have e2:cr (List.range n) (fun i=>(c i+(if i=row then-(cr (List.range n) fun i=>c i*elimM f row k i)else 0))*f i j)=cr (List.range n) (fun i=>c i*f i j)+cr (List.range n) (fun i=>(if i=row then-(cr (List.range n) fun i=>c i*elimM f row k i)else 0)*f i j):=by
   rw[←gO];exact bD fun i _=>by grind
  rw[e1,e2,kL List.nodup_range (List.mem_range.2 hr) (g:=fun i=>(if i=row then-(cr (List.range n) fun i=>c i*elimM f row k i)else 0)*f i j) (fun i _ hi=>by simp only[if_neg hi];grind)];simp only[if_pos rfl]
  grind
 ·have h0:∀i,i<n->i≠row->c i=0:=fun i hi hir=>by
   have:=h i hi;dsimp only at this;rw[if_neg hir]at this
   grind
  have hM:cr (List.range n) (fun i=>c i*elimM f row k i)=0:=iI fun i hi=>by
   by_cases e:i=row
   ·unfold elimM;rw[if_pos e];grind
   ·rw[h0 i (List.mem_range.1 hi) e];grind
  intro i hi;by_cases e:i=row
  ·have:=h i hi;dsimp only at this;rw[if_pos e,hM]at this
   grind
  ·exact h0 i hi e
def E3(n m:Nat)(f:Nat->Nat->Rat)(v:Nat->Rat):Prop:=∀i,i<n->cr (List.range m) (fun j=>f i j*v j)=0
theorem C_{a b:Nat}{v:Nat->Rat}(ha:a<n)(hb:b<n):E3 n m (bQ f a b) v↔E3 n m f v:=by
 have e:∀i,cr (List.range m) (fun j=>bQ f a b i j*v j)=cr (List.range m) (fun j=>f (if i=b then a else if i=a then b else i) j*v j):=fun i=>bD fun j _=>by
  unfold bQ;by_cases h1:i=b
  ·rw[if_pos h1,if_pos h1]
  ·rw[if_neg h1,if_neg h1];by_cases h2:i=a
   ·rw[if_pos h2,if_pos h2]
   ·rw[if_neg h2,if_neg h2]
 constructor
 ·intro h i hi;by_cases h1:i=a
  ·have:=h b hb;rw[e,if_pos rfl]at this;rw[h1];exact this
  ·by_cases h2:i=b
   ·have:=h a ha;rw[e]at this;by_cases h3:a=b
    ·rw[if_pos h3]at this;rw[h2,←h3];exact this
    ·rw[if_neg h3,if_pos rfl]at this;rw[h2];exact this
   ·have:=h i hi
    rwa [e,if_neg h2,if_neg h1]at this
 ·intro h i hi;rw[e]
  split
  ·exact h a ha
  ·split
   ·exact h b hb
   ·exact h i hi
theorem Ca{row:Nat}{s:Rat}{v:Nat->Rat}(hs:s≠0):E3 n m (eR f row s 0) v↔E3 n m f v:=by
 have e:∀i,cr (List.range m) (fun j=>eR f row s 0 i j*v j)=(if i=row then s else 1)*cr (List.range m) (fun j=>f i j*v j):=fun i=>by
  rw[←fj];refine bD fun j _=>?_;unfold eR;by_cases h:i=row
  ·rw[if_pos ⟨h,Nat.zero_le _⟩,if_pos h,h];grind
  ·rw[if_neg (fun h'=>h h'.1),if_neg h];grind
 constructor
 ·intro h i hi;have:=h i hi;rw[e]at this;refine(Rat.mul_eq_zero.1 this).resolve_left ?_
  split
  ·exact hs
  ·decide
 ·intro h i hi;rw[e,h i hi];grind
theorem D4{row k:Nat}{v:Nat->Rat}(hr:row<n):E3 n m (iV f row k 0) v↔E3 n m f v:=by
 have e:∀i,cr (List.range m) (fun j=>iV f row k 0 i j*v j)=cr (List.range m) (fun j=>f i j*v j)+-(elimM f row k i)*cr (List.range m) (fun j=>f row j*v j):=fun i=>by
  rw[←fj,←gO];exact bD fun j _=>by rw[yo];grind
 have hrow:elimM f row k row=0:=by unfold elimM;rw[if_pos rfl]
 constructor
 ·intro h i hi;have h1:=h row hr;rw[e,hrow]at h1;have h2:=h i hi;rw[e]at h2;have h3:cr (List.range m) (fun j=>f row j*v j)=0:=by grind
  rw[h3]at h2
  grind
 ·intro h i hi;rw[e,h i hi,h row hr];grind
theorem Bo{row k at':Nat}(hp:f at' k≠0):1/bQ f row at' row k≠0:=by
 have e:bQ f row at' row k=f at' k:=by
  unfold bQ;by_cases h:row=at'
  ·rw[if_pos h,h]
  ·rw[if_neg h,if_pos rfl]
 rw[e];intro h;have:=Rat.div_mul_cancel (a:=1) hp;rw[h]at this
 grind
theorem Ao(f0:Nat->Nat->Rat):D2 n m (fun _ f _=>indep n m f/\∀v,E3 n m f v↔E3 n m f0 v) where
 step:=fun k f piv at' _ hpl hge hat hp _ hJ=>by
  refine⟨ze hpl (yR (Bo hp) (zi hpl hat hJ.1)),fun v=>?_⟩;unfold ny;rw[D4 hpl,Ca (Bo hp),C_ hpl hat];exact hJ.2 v
 skip:=fun _ _ _ _ _ _ h=>h
def nE(n:Nat)(f:Nat->Nat->Rat)(i j:Nat):Rat:=if j<n then f i j else if j=n+i then 1 else 0
theorem zk:indep n (n+n) (nE n f):=fun c hc i hi=>by
 have h:=hc (n+i) (by omega);rw[kL List.nodup_range (List.mem_range.2 hi) (fun i' _ hne=>by
  unfold nE;rw[if_neg (by omega),if_neg (by omega)];grind)]at h
 unfold nE at h;rw[if_neg (by omega),if_pos rfl]at h
 grind
theorem Cf{J:Nat->(Nat->Nat->Rat)->List Int->Prop}{pv:List Int}(hi:indep n m g)(hl:pv.length<=n)(h:lI g n pv.length m\/pv.length=n):pv.length=n:=by
 rcases h with h|h
 ·refine Classical.byContradiction fun hne=>?_;have hlt:pv.length<n:=by omega
  have:=hi (fun i=>if i=pv.length then 1 else 0) (fun j hj=>by
   rw[kL List.nodup_range (List.mem_range.2 hlt) (fun i _ hi=>by simp only[if_neg hi];grind),h pv.length j (Nat.le_refl _) hlt hj];grind) pv.length hlt
  rw[if_pos rfl]at this;exact absurd this (by decide)
 ·exact h
theorem q8{α:Type}(F:Nat->α)(i:Nat)(x:α):((List.range n).map F).set i x=(List.range n).map (fun r=>if r=i then x else F r):=by
 apply List.ext_getElem
 ·simp
 ·intro r h1 h2;by_cases e:r=i
  ·subst e;rw[List.getElem_set_self];simp
  ·rw[List.getElem_set_ne (Ne.symm e)];simp[e]
theorem Bb{i:Nat}(hi:i<n):((List.range n).map (f i)++List.replicate n (0:Rat)).set (n+i) 1=(List.range (n+n)).map (nE n f i):=by
 apply List.ext_getElem
 ·simp
 ·intro j h1 h2;rw[List.length_set,List.length_append,List.length_map,List.length_range,List.length_replicate]at h1;simp only[List.getElem_map,List.getElem_range];unfold nE;by_cases e:j=n+i
  ·subst e;rw[List.getElem_set_self,if_neg (by omega),if_pos rfl]
  ·rw[List.getElem_set_ne (Ne.symm e)];by_cases e2:j<n
   ·rw[List.getElem_append_left (by simpa using e2),if_pos e2];simp
   ·rw[List.getElem_append_right (by simpa using e2),if_neg e2,if_neg e];simp
theorem xG{h:Nat->Rat}:((List.range (n+n)).map h).drop n=(List.range n).map fun j=>h (n+j):=by
 apply List.ext_getElem
 ·simp
 ·intro j h1 h2;simp
theorem zN{α:Type}{F:Nat->α}{i:Nat}(hi:i<n):ix ((List.range n).map F) (i:Int)=some (F i):=by
 rw[fU (by simpa using hi)];simp
theorem Ha{i:Nat}(hi:i<n)(hn:n<=6):IntKind.i64.wrap ((n:Int)+(i:Int))=((n+i:Nat):Int):=by
 rw[IntKind.wrap_i64];omega
theorem Hg(hn:n<=6){M0:List (List Rat)}(hM:M0.length=n):Loop (fun(s:Int×(List (List Rat)))=>gq (n:Int) M0 s.1 s.2) (0,az n n f)=some (az n (n+n) (nE n f)):=by
 have hL:=fz (body:=fun(s:Int×(List (List Rat)))=>gq (n:Int) M0 s.1 s.2) n (fun i=>(List.range n).map fun r=>if r<i then(List.range (n+n)).map (nE n f r)else(List.range n).map (f r)) ((List.range n).map fun r=>if r<n then(List.range (n+n)).map (nE n f r)else(List.range n).map (f r)) (fun i hi=>by
  unfold gq;rw[hM,if_pos (decide_eq_true (by omega)),zN hi,Option.bind_some,if_neg (by omega),aQ (by simp;omega),Int.toNat_natCast,Int.toNat_natCast,q8,zN hi,Option.bind_some,if_pos rfl,ou,Option.bind_some,Ha hi hn,fU (by simp;omega),Option.bind_some,Int.toNat_natCast,Bb hi,q8,cI hi (by omega)]
  congr 3
  apply List.map_congr_left;intro r _;by_cases e:r=i
  ·rw[if_pos e,if_pos (by omega),e]
  ·rw[if_neg e,if_neg e];by_cases e2:r<i
   ·rw[if_pos e2,if_pos (by omega)]
   ·rw[if_neg e2,if_neg (by omega)]) (by
  unfold gq;rw[hM,if_neg (by simp)])
 have e0:az n n f=(List.range n).map fun r=>if r<0 then(List.range (n+n)).map (nE n f r)else(List.range n).map (f r):=by
  unfold az;apply List.map_congr_left;intro r _;rw[if_neg (by omega)]
 have e1:az n (n+n) (nE n f)=(List.range n).map fun r=>if r<n then(List.range (n+n)).map (nE n f r)else(List.range n).map (f r):=by
  unfold az;apply List.map_congr_left;intro r hr;rw[if_pos (by simpa using hr)]
 rw[e0,e1];exact hL
theorem Hh(hn:n<=6):Loop (fun(s:Int×(List (List Rat)))=>fe (az n n f) s.1 s.2) (0,([]:List (List Rat)))=some (az n (n+n) (nE n f)):=by
 have hL:=fz (body:=fun(s:Int×(List (List Rat)))=>fe (az n n f) s.1 s.2) n (fun i=>az i (n+n) (nE n f)) (az n (n+n) (nE n f)) (fun i hi=>by
  unfold fe;rw[aP,if_pos (decide_eq_true (by omega)),bp hi,Option.bind_some,aQ (by simp;omega),aQ (by simp;omega),ou,Option.bind_some,Int.toNat_natCast,Ha hi hn,fU (by simp;omega),Option.bind_some,aQ (by rw[aP];omega),Int.toNat_natCast,Bb hi,cI hi (by omega),q_]) (by
  unfold fe;rw[aP,if_neg (by simp)])
 exact hL
theorem G9(hn:n<=6){M0:List (List Rat)}(hM:M0.length=n):Loop (fun(s:Int×(List (List Rat)))=>fv (n:Int) M0 s.1 s.2) (0,az n (n+n) g)=some (az n n fun i j=>g i (n+j)):=by
 have hL:=fz (body:=fun(s:Int×(List (List Rat)))=>fv (n:Int) M0 s.1 s.2) n (fun i=>(List.range n).map fun r=>if r<i then(List.range n).map (fun j=>g r (n+j))else(List.range (n+n)).map (g r)) ((List.range n).map fun r=>if r<n then(List.range n).map (fun j=>g r (n+j))else(List.range (n+n)).map (g r)) (fun i hi=>by
  unfold fv n7;have e1:((List.range n).map fun r=>if r<i then(List.range n).map (fun j=>g r (n+j))else(List.range (n+n)).map (g r))[i]?=some ((List.range (n+n)).map (g i)):=by
   rw[List.getElem?_eq_getElem (by simpa using hi)];simp
  rw[hM,if_pos (decide_eq_true (by omega)),zN hi,Option.bind_some,if_neg (by omega),aQ (by simp;omega),Int.toNat_natCast,Int.toNat_natCast,e1,Option.bind_some,aQ (by simp;omega),Option.bind_some,Option.bind_some,xG,q8,cI hi (by omega)]
  congr 3
  apply List.map_congr_left;intro r _;by_cases e:r=i
  ·rw[if_pos e,if_pos (by omega),e]
  ·rw[if_neg e];by_cases e2:r<i
   ·rw[if_pos e2,if_pos (by omega)]
   ·rw[if_neg e2,if_neg (by omega)]) (by
  unfold fv;rw[hM,if_neg (by simp)])
 have e0:az n (n+n) g=(List.range n).map fun r=>if r<0 then(List.range n).map (fun j=>g r (n+j))else(List.range (n+n)).map (g r):=by
  unfold az;apply List.map_congr_left;intro r _;rw[if_neg (by omega)]
 have e1:az n n (fun i j=>g i (n+j))=(List.range n).map fun r=>if r<n then(List.range n).map (fun j=>g r (n+j))else(List.range (n+n)).map (g r):=by
  unfold az;apply List.map_congr_left;intro r hr;rw[if_pos (by simpa using hr)]
 rw[e0,e1];exact hL
theorem G1(hn:n<=6):Loop (fun(s:Int×(List (List Rat)))=>eD (az n n f) (az n (n+n) g) s.1 s.2) (0,([]:List (List Rat)))=some (az n n fun i j=>g i (n+j)):=by
 have hL:=fz (body:=fun(s:Int×(List (List Rat)))=>eD (az n n f) (az n (n+n) g) s.1 s.2) n (fun i=>az i n fun i j=>g i (n+j)) (az n n fun i j=>g i (n+j)) (fun i hi=>by
  unfold eD;rw[aP,aP,if_pos (decide_eq_true (by omega)),bp hi,Option.bind_some,aQ (by simp;omega),Int.toNat_natCast,xG,aQ (by simp;omega),aQ (by rw[aP];omega),cI hi (by omega),q_]) (by
  unfold eD;rw[aP,if_neg (by simp)])
 exact hL
theorem H8(f:Nat->Nat->Rat)(hn:n<=6)(hf:kE f 300):∃g pv,Jr n (n+n) g pv/\pv.length=n/\indep n (n+n) g/\(∀v,E3 n (n+n) g v↔E3 n (n+n) (nE n f) v)/\
  ((iH (az n n f)=some (az n n (fun i j=>g i (n+j)),0)/\iw (az n n f)=some (az n n (fun i j=>g i (n+j)),true)/\(0<n->pv[n-1]?=some (((n-1:Nat)):Int)))\/
   (iH (az n n f)=some ([],8)/\iw (az n n f)=some ([],false)/\0<n/\pv[n-1]?≠some (((n-1:Nat)):Int))):=by
 have hc:gE (az n n f)=n:=by
  by_cases h:n=0
  ·subst h;rfl
  ·exact oX (by omega)
 have hrl:∀r∈az n n f,r.length<=30:=fun r hr=>by rw[mR hr];omega
 obtain⟨g,pv,⟨k',hk',⟨hJ1,hJ2⟩,hz,hor⟩,e1,e2,hR⟩:=Aa n (n+n) (nE n f) (Ao (nE n f)) ⟨zk,fun _=>Iff.rfl⟩ hn (by omega) (fun h=>by omega) (fun i j=>by
  unfold nE
  split
  ·exact hf i j
  ·split<;>exact Nat.le_trans (show sz _<=1 by decide+kernel) (by decide))
 have hlen:pv.length=n:=Cf (J:=fun _ _ _=>True) hJ1 hR.len (hor.elim (fun h=>.inl (h▸hz)) .inr);refine⟨g,pv,hR,hlen,hJ1,hJ2,?_⟩;have hp:∀X,(((if(decide ((n:Int)>0))=true then(ix pv (IntKind.i64.wrap ((n:Int)-1))).bind fun v36=>(if(v36 !=(IntKind.i64.wrap ((n:Int)-1)))=true then some (Ex.ret (([]:List (List Rat)),(8:Int)))else some (Ex.cd (az n (n+n) g)))else some (Ex.cd (az n (n+n) g)))).bind fun o30=>(match o30 with|Ex.cd v39=>((Loop (fun(s:Int×(List (List Rat)))=>fv (n:Int) v39 s.1 s.2) (0,v39)).bind fun v56=>some (v56)).bind fun v57=>some (v57,0)|Ex.ret (r58,r59)=>some (r58,r59)))=X->iH (az n n f)=X:=fun X hX=>by
  unfold iH;rw[kO _ (by rw[aP];omega),lS,hc,aP,Option.bind_some];simp only[Bool.not_true,Bool.false_eq_true,if_false];rw[if_neg (by simp),rm _ (by rw[aP];omega) hrl,Option.bind_some,Hg hn aP,Option.bind_some,Option.bind_some,e1,Option.bind_some];exact hX
 have hr:∀X,(((if(decide ((n:Int)>0))=true then(ix pv (IntKind.i64.wrap ((n:Int)-1))).bind fun v29=>(if(v29 !=(IntKind.i64.wrap ((n:Int)-1)))=true then some (Ex.ret (([]:List (List Rat)),false))else some (Ex.cd ()))else some (Ex.cd ()))).bind fun o25=>(match o25 with|Ex.cd ()=>((Loop (fun(s:Int×(List (List Rat)))=>eD (az n n f) (az n (n+n) g) s.1 s.2) (0,([]:List (List Rat)))).bind fun v46=>some (v46)).bind fun v47=>some (v47,true)|Ex.ret (r48,r49)=>some (r48,r49)))=X->iw (az n n f)=X:=fun X hX=>by
  unfold iw;rw[Hh hn,Option.bind_some,Option.bind_some,e2,Option.bind_some,aP];simp only;rw[hlen,if_neg (by simp)];exact hX
 by_cases h0:n=0
 ·subst h0;refine .inl ⟨hp _ ?_,hr _ ?_,fun h=>by omega⟩
  ·rw[if_neg (by decide),Option.bind_some];simp only;rw[G9 hn aP];rfl
  ·rw[if_neg (by decide),Option.bind_some];simp only;rw[G1 hn];rfl
 ·have hw:IntKind.i64.wrap ((n:Int)-1)=((n-1:Nat):Int):=by rw[IntKind.wrap_i64];omega
  have hix:ix pv (((n-1:Nat)):Int)=some (pv[n-1]'(by omega)):=fU (by omega);have hg:pv[n-1]?=some (pv[n-1]'(by omega)):=List.getElem?_eq_getElem (by omega);by_cases hq:pv[n-1]'(by omega)=((n-1:Nat):Int)
  ·refine .inl ⟨hp _ ?_,hr _ ?_,fun _=>by rw[hg,hq]⟩
   ·rw[if_pos (decide_eq_true (by omega)),hw,hix,Option.bind_some,if_neg (by simp[hq]),Option.bind_some];simp only;rw[G9 hn aP];rfl
   ·rw[if_pos (decide_eq_true (by omega)),hw,hix,Option.bind_some,if_neg (by simp[hq]),Option.bind_some];simp only;rw[G1 hn];rfl
  ·refine .inr ⟨hp _ ?_,hr _ ?_,by omega,fun h=>hq (by rw[hg]at h;exact Option.some.inj h)⟩
   ·rw[if_pos (decide_eq_true (by omega)),hw,hix,Option.bind_some,if_pos (by rw[bne_iff_ne];exact hq),Option.bind_some]
   ·rw[if_pos (decide_eq_true (by omega)),hw,hix,Option.bind_some,if_pos (by rw[bne_iff_ne];exact hq),Option.bind_some]
end Go.Am
