/- ExactSolves: the walk of the law, and its plain law: it returns true for every input. No condition. -/
import Derived.Test.YtgnepgenefcnpaaGreatDoorBgG
set_option linter.unusedVariables false
set_option linter.unusedSimpArgs false
namespace Go.Am
open Go.RowKit
set_option maxRecDepth 100000
noncomputable section
def cS(v18:List Int)(v35:List Int)(v47:Int):Option (St Int (Ex Unit Bool)):=(if(decide (v47<(v18.length:Int)))=true then(ix v18 v47).bind fun v53=>(ix v35 v47).bind fun v55=>(if(v53 !=v55)=true then some (St.done (Ex.ret false))else some (St.next (IntKind.i64.wrap (v47+1))))else some (St.done (Ex.da ())))
def gO(a1:List (List (Int×Int×Int)))(a2:List (Int×Int×Int)):Option Bool:=(kV a1 5).bind fun v3=>(if(!v3)=true then(gw).bind fun v6=>some v6 else(if(decide ((a2.length:Int)>6))=true then(gw).bind fun v9=>some v9 else(om a1).bind fun(v11,v12)=>(kM a2).bind fun(v14,v15)=>(nF v11).bind fun(v17,v18,v19)=>(iq v11 v14).bind fun(v21,v22,v23)=>(iU v12).bind fun(v25,v26)=>(if(!v26)=true then(if(v19==2)=true then(if(v23==2)=true then(if((IntKind.i64.wrap ((IntKind.i64.wrap ((IntKind.i64.wrap ((v17.length:Int)+(v18.length:Int)))+(v21.length:Int)))+(v22.length:Int)))==0)=true then(gw).bind fun v32=>some v32 else some false)else some false)else some false)else(j0 v12).bind fun(v34,v35)=>(if(v19 !=0)=true then some false else(fw v17 v34).bind fun v38=>(if(!v38)=true then some false else(if((v18.length:Int) !=(v35.length:Int))=true then some false else(fw v11 v12).bind fun v42=>(if(!v42)=true then some false else((Loop (fun(s:Int)=>cS v18 v35 s) 0).bind fun o48=>(match o48 with|Ex.da ()=>some (Ex.da ())|Ex.ret r58=>some (Ex.ret r58))).bind fun o45=>(match o45 with|Ex.da ()=>(if((v15.length:Int) !=(v12.length:Int))=true then(if(v23==2)=true then(if((IntKind.i64.wrap ((v21.length:Int)+(v22.length:Int)))==0)=true then(gw).bind fun v62=>some v62 else some false)else some false)else(ja v12 v15).bind fun(v64,v65,v66)=>(if(!v66)=true then(if(v23==8)=true then(if((IntKind.i64.wrap ((v21.length:Int)+(v22.length:Int)))==0)=true then(gw).bind fun v71=>some v71 else some false)else some false)else(if(v23==0)=true then(jV v21 v64).bind fun v74=>(if v74=true then(fw v22 v65).bind fun v77=>(if v77=true then(gw).bind fun v80=>some v80 else some false)else some false)else some false)))|Ex.ret r82=>some r82))))))))
theorem qc{a1:List (List (Int×Int×Int))}{a2:List (Int×Int×Int)}{r83:Bool}(h:gO a1 a2=some r83):aS PP 17 [] [ag (ak.slice (ak.prod (ak.int .i64) (ak.prod (ak.int .i64) (ak.int .u8)))) a1,ag (ak.prod (ak.int .i64) (ak.prod (ak.int .i64) (ak.int .u8))) a2] [] (D.bool r83):=by
 unfold gO at h
 refine .of Go.Proofs.Tryz.func17 rfl (by kernel_rfl) rfl rfl rfl rfl rfl rfl (fun A w0 L b=>?_)
 show Ok PP _ [(0,ag (ak.slice (ak.prod (ak.int .i64) (ak.prod (ak.int .i64) (ak.int .u8)))) a1),(1,ag (ak.prod (ak.int .i64) (ak.prod (ak.int .i64) (ak.int .u8))) a2)] [] _ _
 refine .al (.aq rfl<|.nil) rfl ?_
 refine .sq ?_
 obtain⟨v3,e4,h⟩:=bind_some h
 by_cases c5:(!v3)=true
 ·replace h:=aa c5 h
  refine .al (.mv rfl<|.ah (tl e4) ⟨rfl,rfl,trivial⟩ trivial trivial<|.not rfl<|.mv rfl<|.eQ rfl rfl rfl c5<|.eQ rfl rfl rfl c5<|.eQ rfl rfl rfl c5<|.bn rfl c5 rfl<|.nil) rfl ?_
  refine .cj rfl rfl ?_
  obtain⟨v6,e7,h⟩:=bind_some h
  refine .al (.ah (jU e7) trivial trivial trivial<|.aq rfl<|.nil) rfl ?_
  cases h
  refine .aH (fun _ _ hb=>hb) rfl (.cons (.tmp rfl) .nil) (.refl _) trivial trivial
 ·replace h:=ab c5 h
  refine .al (.mv rfl<|.ah (tl e4) ⟨rfl,rfl,trivial⟩ trivial trivial<|.not rfl<|.mv rfl<|.dn rfl rfl rfl c5<|.mv rfl<|.dn rfl rfl rfl c5<|.ep rfl gQ<|.dn rfl rfl rfl c5<|.cm rfl rfl rfl<|.bm rfl c5 rfl<|.nil) rfl ?_
  by_cases c8:(decide ((a2.length:Int)>6))=true
  ·replace h:=aa c8 h
   refine .cj rfl c8 ?_
   obtain⟨v9,e10,h⟩:=bind_some h
   refine .al (.ah (jU e10) trivial trivial trivial<|.aq rfl<|.nil) rfl ?_
   cases h
   refine .aH (fun _ _ hb=>hb) rfl (.cons (.tmp rfl) .nil) (.refl _) trivial trivial
  ·replace h:=ab c8 h
   refine .ck rfl c8 ?_
   refine .skip (Ok.on ?_)
   obtain⟨⟨v11,v12⟩,e13,h⟩:=bind_some h
   refine .al (.mv rfl<|.ah (Dv e13) ⟨rfl,trivial⟩ trivial trivial<|.mv rfl<|.ext rfl rfl<|.ext rfl rfl<|.aq rfl<|.aq rfl<|.nil) rfl ?_
   obtain⟨⟨v14,v15⟩,e16,h⟩:=bind_some h
   refine .al (.mv rfl<|.ah (u9 e16) ⟨rfl,trivial⟩ trivial trivial<|.mv rfl<|.ext rfl rfl<|.ext rfl rfl<|.aq rfl<|.aq rfl<|.nil) rfl ?_
   obtain⟨⟨v17,v18,v19⟩,e20,h⟩:=bind_some h
   refine .al (.mv rfl<|.ah (Fa e20) ⟨rfl,trivial⟩ trivial trivial<|.mv rfl<|.ext rfl rfl<|.ext rfl rfl<|.ext rfl rfl<|.aq rfl<|.aq rfl<|.aq rfl<|.nil) rfl ?_
   obtain⟨⟨v21,v22,v23⟩,e24,h⟩:=bind_some h
   refine .al (.mv rfl<|.mv rfl<|.ah (C8 e24) ⟨rfl,rfl,trivial⟩ trivial trivial<|.mv rfl<|.ext rfl rfl<|.ext rfl rfl<|.ext rfl rfl<|.aq rfl<|.aq rfl<|.aq rfl<|.nil) rfl ?_
   obtain⟨⟨v25,v26⟩,e27,h⟩:=bind_some h
   refine .al (.mv rfl<|.ah (pA e27) ⟨rfl,trivial⟩ trivial trivial<|.mv rfl<|.ext rfl rfl<|.ext rfl rfl<|.aq rfl<|.aq rfl<|.nil) rfl ?_
   refine .sq ?_
   refine .al (.mv rfl<|.not rfl<|.nil) rfl ?_
   by_cases c28:(!v26)=true
   ·replace h:=aa c28 h
    refine .cj rfl c28 ?_
    by_cases c29:(v19==2)=true
    ·replace h:=aa c29 h
     by_cases c30:(v23==2)=true
     ·replace h:=aa c30 h
      by_cases c31:((IntKind.i64.wrap ((IntKind.i64.wrap ((IntKind.i64.wrap ((v17.length:Int)+(v18.length:Int)))+(v21.length:Int)))+(v22.length:Int)))==0)=true
      ·replace h:=aa c31 h
       obtain⟨v32,e33,h⟩:=bind_some h
       refine .al (.mv rfl<|.cm rfl rfl rfl<|.mv rfl<|.aV rfl rfl rfl c29<|.mv rfl<|.aV rfl rfl rfl c29<|.cm rfl rfl rfl<|.bn rfl c29 rfl<|.mv rfl<|.aV rfl rfl rfl c30<|.mv rfl<|.aV rfl rfl rfl c30<|.ep rfl bN<|.aV rfl rfl rfl c30<|.mv rfl<|.aV rfl rfl rfl c30<|.ep rfl ba<|.aV rfl rfl rfl c30<|.ar rfl rfl rfl<|.aV rfl rfl rfl c30<|.mv rfl<|.aV rfl rfl rfl c30<|.ep rfl dp<|.aV rfl rfl rfl c30<|.ar rfl rfl rfl<|.aV rfl rfl rfl c30<|.mv rfl<|.aV rfl rfl rfl c30<|.ep rfl bN<|.aV rfl rfl rfl c30<|.ar rfl rfl rfl<|.aV rfl rfl rfl c30<|.cm rfl rfl rfl<|.bn rfl c30 rfl<|.mv rfl<|.aV rfl rfl rfl c31<|.ah (jU e33) trivial trivial trivial<|.bn rfl c31 rfl<|.aq rfl<|.nil) rfl ?_
       cases h
       refine .aH (fun _ _ hb=>hb) rfl (.cons (.tmp rfl) .nil) (.refl _) trivial trivial
      ·replace h:=ab c31 h
       refine .al (.mv rfl<|.cm rfl rfl rfl<|.mv rfl<|.aV rfl rfl rfl c29<|.mv rfl<|.aV rfl rfl rfl c29<|.cm rfl rfl rfl<|.bn rfl c29 rfl<|.mv rfl<|.aV rfl rfl rfl c30<|.mv rfl<|.aV rfl rfl rfl c30<|.ep rfl bN<|.aV rfl rfl rfl c30<|.mv rfl<|.aV rfl rfl rfl c30<|.ep rfl ba<|.aV rfl rfl rfl c30<|.ar rfl rfl rfl<|.aV rfl rfl rfl c30<|.mv rfl<|.aV rfl rfl rfl c30<|.ep rfl dp<|.aV rfl rfl rfl c30<|.ar rfl rfl rfl<|.aV rfl rfl rfl c30<|.mv rfl<|.aV rfl rfl rfl c30<|.ep rfl bN<|.aV rfl rfl rfl c30<|.ar rfl rfl rfl<|.aV rfl rfl rfl c30<|.cm rfl rfl rfl<|.bn rfl c30 rfl<|.mv rfl<|.aT rfl rfl rfl c31<|.bm rfl c31 rfl<|.aq rfl<|.nil) rfl ?_
       cases h
       refine .aH (fun _ _ hb=>hb) rfl (.cons (.tmp rfl) .nil) (.refl _) trivial trivial
     ·replace h:=ab c30 h
      refine .al (.mv rfl<|.cm rfl rfl rfl<|.mv rfl<|.aV rfl rfl rfl c29<|.mv rfl<|.aV rfl rfl rfl c29<|.cm rfl rfl rfl<|.bn rfl c29 rfl<|.mv rfl<|.aT rfl rfl rfl c30<|.aT rfl rfl rfl c30<|.aT rfl rfl rfl c30<|.aT rfl rfl rfl c30<|.aT rfl rfl rfl c30<|.aT rfl rfl rfl c30<|.aT rfl rfl rfl c30<|.aT rfl rfl rfl c30<|.aT rfl rfl rfl c30<|.aT rfl rfl rfl c30<|.aT rfl rfl rfl c30<|.aT rfl rfl rfl c30<|.bm rfl c30 rfl<|.mv rfl<|.aT rfl rfl rfl (by decide)<|.bm rfl (by decide) rfl<|.aq rfl<|.nil) rfl ?_
      cases h
      refine .aH (fun _ _ hb=>hb) rfl (.cons (.tmp rfl) .nil) (.refl _) trivial trivial
    ·replace h:=ab c29 h
     refine .al (.mv rfl<|.cm rfl rfl rfl<|.mv rfl<|.aT rfl rfl rfl c29<|.aT rfl rfl rfl c29<|.bm rfl c29 rfl<|.mv rfl<|.aT rfl rfl rfl (by decide)<|.aT rfl rfl rfl (by decide)<|.aT rfl rfl rfl (by decide)<|.aT rfl rfl rfl (by decide)<|.aT rfl rfl rfl (by decide)<|.aT rfl rfl rfl (by decide)<|.aT rfl rfl rfl (by decide)<|.aT rfl rfl rfl (by decide)<|.aT rfl rfl rfl (by decide)<|.aT rfl rfl rfl (by decide)<|.aT rfl rfl rfl (by decide)<|.aT rfl rfl rfl (by decide)<|.bm rfl (by decide) rfl<|.mv rfl<|.aT rfl rfl rfl (by decide)<|.bm rfl (by decide) rfl<|.aq rfl<|.nil) rfl ?_
     cases h
     refine .aH (fun _ _ hb=>hb) rfl (.cons (.tmp rfl) .nil) (.refl _) trivial trivial
   ·replace h:=ab c28 h
    refine .ck rfl c28 ?_
    refine .skip (Ok.on ?_)
    obtain⟨⟨v34,v35⟩,e36,h⟩:=bind_some h
    refine .al (.mv rfl<|.ah (v_ e36) ⟨rfl,trivial⟩ trivial trivial<|.mv rfl<|.ext rfl rfl<|.ext rfl rfl<|.aq rfl<|.aq rfl<|.nil) rfl ?_
    refine .sq ?_
    by_cases c37:(v19 !=0)=true
    ·replace h:=aa c37 h
     refine .al (.mv rfl<|.cm rfl rfl rfl<|.mv rfl<|.eQ rfl rfl rfl c37<|.eQ rfl rfl rfl c37<|.eQ rfl rfl rfl c37<|.eQ rfl rfl rfl c37<|.bn rfl c37 rfl<|.mv rfl<|.eQ rfl rfl rfl rfl<|.eQ rfl rfl rfl rfl<|.eQ rfl rfl rfl rfl<|.eQ rfl rfl rfl rfl<|.eQ rfl rfl rfl rfl<|.bn rfl rfl rfl<|.mv rfl<|.eQ rfl rfl rfl rfl<|.eQ rfl rfl rfl rfl<|.eQ rfl rfl rfl rfl<|.eQ rfl rfl rfl rfl<|.bn rfl rfl rfl<|.nil) rfl ?_
     refine .cj rfl rfl ?_
     refine .al (.aq rfl<|.nil) rfl ?_
     cases h
     refine .aH (fun _ _ hb=>hb) rfl (.cons (.tmp rfl) .nil) (.refl _) trivial trivial
    ·replace h:=ab c37 h
     obtain⟨v38,e39,h⟩:=bind_some h
     by_cases c40:(!v38)=true
     ·replace h:=aa c40 h
      refine .al (.mv rfl<|.cm rfl rfl rfl<|.mv rfl<|.dn rfl rfl rfl c37<|.mv rfl<|.dn rfl rfl rfl c37<|.mv rfl<|.dn rfl rfl rfl c37<|.ah (gr e39) ⟨rfl,rfl,trivial⟩ trivial trivial<|.dn rfl rfl rfl c37<|.not rfl<|.bm rfl c37 rfl<|.mv rfl<|.eQ rfl rfl rfl c40<|.eQ rfl rfl rfl c40<|.eQ rfl rfl rfl c40<|.eQ rfl rfl rfl c40<|.eQ rfl rfl rfl c40<|.bn rfl c40 rfl<|.mv rfl<|.eQ rfl rfl rfl rfl<|.eQ rfl rfl rfl rfl<|.eQ rfl rfl rfl rfl<|.eQ rfl rfl rfl rfl<|.bn rfl rfl rfl<|.nil) rfl ?_
      refine .cj rfl rfl ?_
      refine .al (.aq rfl<|.nil) rfl ?_
      cases h
      refine .aH (fun _ _ hb=>hb) rfl (.cons (.tmp rfl) .nil) (.refl _) trivial trivial
     ·replace h:=ab c40 h
      by_cases c41:((v18.length:Int) !=(v35.length:Int))=true
      ·replace h:=aa c41 h
       refine .al (.mv rfl<|.cm rfl rfl rfl<|.mv rfl<|.dn rfl rfl rfl c37<|.mv rfl<|.dn rfl rfl rfl c37<|.mv rfl<|.dn rfl rfl rfl c37<|.ah (gr e39) ⟨rfl,rfl,trivial⟩ trivial trivial<|.dn rfl rfl rfl c37<|.not rfl<|.bm rfl c37 rfl<|.mv rfl<|.dn rfl rfl rfl c40<|.mv rfl<|.dn rfl rfl rfl c40<|.ep rfl ba<|.dn rfl rfl rfl c40<|.mv rfl<|.dn rfl rfl rfl c40<|.ep rfl ba<|.dn rfl rfl rfl c40<|.cm rfl rfl rfl<|.bm rfl c40 rfl<|.mv rfl<|.eQ rfl rfl rfl c41<|.eQ rfl rfl rfl c41<|.eQ rfl rfl rfl c41<|.eQ rfl rfl rfl c41<|.bn rfl c41 rfl<|.nil) rfl ?_
       refine .cj rfl rfl ?_
       refine .al (.aq rfl<|.nil) rfl ?_
       cases h
       refine .aH (fun _ _ hb=>hb) rfl (.cons (.tmp rfl) .nil) (.refl _) trivial trivial
      ·replace h:=ab c41 h
       obtain⟨v42,e43,h⟩:=bind_some h
       refine .al (.mv rfl<|.cm rfl rfl rfl<|.mv rfl<|.dn rfl rfl rfl c37<|.mv rfl<|.dn rfl rfl rfl c37<|.mv rfl<|.dn rfl rfl rfl c37<|.ah (gr e39) ⟨rfl,rfl,trivial⟩ trivial trivial<|.dn rfl rfl rfl c37<|.not rfl<|.bm rfl c37 rfl<|.mv rfl<|.dn rfl rfl rfl c40<|.mv rfl<|.dn rfl rfl rfl c40<|.ep rfl ba<|.dn rfl rfl rfl c40<|.mv rfl<|.dn rfl rfl rfl c40<|.ep rfl ba<|.dn rfl rfl rfl c40<|.cm rfl rfl rfl<|.bm rfl c40 rfl<|.mv rfl<|.dn rfl rfl rfl c41<|.mv rfl<|.dn rfl rfl rfl c41<|.mv rfl<|.dn rfl rfl rfl c41<|.ah (gr e43) ⟨rfl,rfl,trivial⟩ trivial trivial<|.dn rfl rfl rfl c41<|.not rfl<|.bm rfl c41 rfl<|.nil) rfl ?_
       by_cases c44:(!v42)=true
       ·replace h:=aa c44 h
        refine .cj rfl c44 ?_
        refine .al (.aq rfl<|.nil) rfl ?_
        cases h
        refine .aH (fun _ _ hb=>hb) rfl (.cons (.tmp rfl) .nil) (.refl _) trivial trivial
       ·replace h:=ab c44 h
        refine .ck rfl c44 ?_
        refine .skip (Ok.on ?_)
        obtain⟨o45,hp46,h⟩:=bind_some h
        refine .cd (fun i=>o45=Ex.da i) (fun(i:Unit)=>[(6,ag (ak.slice ak.rq) v12),(8,ag ak.rq v15),(12,ag ak.rat v21),(13,ag (ak.slice ak.rat) v22),(14,D.int .i64 v23)]) (fun(i:Unit)=>[]) ?_ ?_
        ·have ho1:=h
         clear h
         have h:=hp46
         clear hp46
         refine .al (.aq rfl<|.nil) rfl ?_
         obtain⟨o48,hl49,h⟩:=bind_some h
         have ho2:=h
         clear h
         refine .block (.b8 (fun(s:Int)=>[(6,ag (ak.slice ak.rq) v12),(8,ag ak.rq v15),(10,ag (ak.int .i64) v18),(12,ag ak.rat v21),(13,ag (ak.slice ak.rat) v22),(14,D.int .i64 v23),(18,ag (ak.int .i64) v35),(19,D.int .i64 s)]) (fun(s:Int)=>[]) hl49 (.of rfl) trivial rfl rfl ?_)
         rintro v47 st50 hb51
         have h:cS v18 v35 v47=some st50:=hb51
         clear hb51
         unfold cS at h
         try dsimp only
         refine .sq ?_
         refine .al (.mv rfl<|.mv rfl<|.ep rfl ba<|.cm rfl rfl rfl<|.nil) rfl ?_
         by_cases c52:(decide (v47<(v18.length:Int)))=true
         ·replace h:=aa c52 h
          refine .cj rfl c52 ?_
          refine .skip (Ok.on ?_)
          refine .sq ?_
          refine .block ?_
          obtain⟨v53,e54,h⟩:=bind_some h
          obtain⟨v55,e56,h⟩:=bind_some h
          refine .dc cg (.mv rfl<|.mv rfl<|.ko rfl rfl cy (af e54).1 (af e54).2<|.gC rfl cB<|.mv rfl<|.mv rfl<|.ko rfl rfl cy (af e56).1 (af e56).2<|.gC rfl cB<|.cm rfl rfl rfl<|.nil) rfl (by kernel_rfl) ?_
          by_cases c57:(v53 !=v55)=true
          ·replace h:=aa c57 h
           refine .cj rfl c57 ?_
           refine .al (.aq rfl<|.nil) rfl ?_
           refine .aH (Hi:=[]) (Ho:=[]) (b:=b) (fn:=Go.Proofs.Tryz.f17) (d:=D.bool false) (fun _ _ hb=>by exact⟨_,(Option.some.inj h).symm,fun e=>by subst e;have h:=ho2;cases h;have h:=ho1;cases h;exact hb⟩) rfl (.cons (.tmp rfl) .nil) (.refl _) trivial trivial
          ·replace h:=ab c57 h
           refine .ck rfl c57 ?_
           refine .skip (Ok.on ?_)
           refine .region (.mv rfl<|.ar rfl rfl rfl<|.aq rfl<|.nil) rfl (fun _ _ hs=>⟨(IntKind.i64.wrap (v47+1)),(Option.some.inj h).symm,hs.sub (.of rfl) trivial rfl rfl⟩)
         ·replace h:=ab c52 h
          refine .ck rfl c52 ?_
          refine .exit (fun a w hs=>⟨_,(Option.some.inj h).symm,fun e=>by subst e;have h:=ho2;exact aZ (⟨(),(Option.some.inj h).symm,hs.sub (.of rfl) trivial rfl rfl⟩)⟩)
        ·rintro⟨⟩ rfl
         try dsimp only
         refine .sq ?_
         refine .al (.mv rfl<|.ep rfl gp<|.mv rfl<|.ep rfl b9<|.cm rfl rfl rfl<|.nil) rfl ?_
         by_cases c59:((v15.length:Int) !=(v12.length:Int))=true
         ·replace h:=aa c59 h
          refine .cj rfl c59 ?_
          by_cases c60:(v23==2)=true
          ·replace h:=aa c60 h
           by_cases c61:((IntKind.i64.wrap ((v21.length:Int)+(v22.length:Int)))==0)=true
           ·replace h:=aa c61 h
            obtain⟨v62,e63,h⟩:=bind_some h
            refine .al (.mv rfl<|.cm rfl rfl rfl<|.mv rfl<|.aV rfl rfl rfl c60<|.mv rfl<|.aV rfl rfl rfl c60<|.ep rfl dp<|.aV rfl rfl rfl c60<|.mv rfl<|.aV rfl rfl rfl c60<|.ep rfl bN<|.aV rfl rfl rfl c60<|.ar rfl rfl rfl<|.aV rfl rfl rfl c60<|.cm rfl rfl rfl<|.bn rfl c60 rfl<|.mv rfl<|.aV rfl rfl rfl c61<|.ah (jU e63) trivial trivial trivial<|.bn rfl c61 rfl<|.aq rfl<|.nil) rfl ?_
            cases h
            refine .aH (fun _ _ hb=>hb) rfl (.cons (.tmp rfl) .nil) (.refl _) trivial trivial
           ·replace h:=ab c61 h
            refine .al (.mv rfl<|.cm rfl rfl rfl<|.mv rfl<|.aV rfl rfl rfl c60<|.mv rfl<|.aV rfl rfl rfl c60<|.ep rfl dp<|.aV rfl rfl rfl c60<|.mv rfl<|.aV rfl rfl rfl c60<|.ep rfl bN<|.aV rfl rfl rfl c60<|.ar rfl rfl rfl<|.aV rfl rfl rfl c60<|.cm rfl rfl rfl<|.bn rfl c60 rfl<|.mv rfl<|.aT rfl rfl rfl c61<|.bm rfl c61 rfl<|.aq rfl<|.nil) rfl ?_
            cases h
            refine .aH (fun _ _ hb=>hb) rfl (.cons (.tmp rfl) .nil) (.refl _) trivial trivial
          ·replace h:=ab c60 h
           refine .al (.mv rfl<|.cm rfl rfl rfl<|.mv rfl<|.aT rfl rfl rfl c60<|.aT rfl rfl rfl c60<|.aT rfl rfl rfl c60<|.aT rfl rfl rfl c60<|.aT rfl rfl rfl c60<|.aT rfl rfl rfl c60<|.bm rfl c60 rfl<|.mv rfl<|.aT rfl rfl rfl (by decide)<|.bm rfl (by decide) rfl<|.aq rfl<|.nil) rfl ?_
           cases h
           refine .aH (fun _ _ hb=>hb) rfl (.cons (.tmp rfl) .nil) (.refl _) trivial trivial
         ·replace h:=ab c59 h
          refine .ck rfl c59 ?_
          refine .skip (Ok.on ?_)
          obtain⟨⟨v64,v65,v66⟩,e67,h⟩:=bind_some h
          refine .al (.mv rfl<|.mv rfl<|.ah (y5 e67) ⟨rfl,rfl,trivial⟩ trivial trivial<|.mv rfl<|.ext rfl rfl<|.ext rfl rfl<|.ext rfl rfl<|.aq rfl<|.aq rfl<|.aq rfl<|.nil) rfl ?_
          refine .sq ?_
          refine .al (.mv rfl<|.not rfl<|.nil) rfl ?_
          by_cases c68:(!v66)=true
          ·replace h:=aa c68 h
           refine .cj rfl c68 ?_
           by_cases c69:(v23==8)=true
           ·replace h:=aa c69 h
            by_cases c70:((IntKind.i64.wrap ((v21.length:Int)+(v22.length:Int)))==0)=true
            ·replace h:=aa c70 h
             obtain⟨v71,e72,h⟩:=bind_some h
             refine .al (.mv rfl<|.cm rfl rfl rfl<|.mv rfl<|.aV rfl rfl rfl c69<|.mv rfl<|.aV rfl rfl rfl c69<|.ep rfl dp<|.aV rfl rfl rfl c69<|.mv rfl<|.aV rfl rfl rfl c69<|.ep rfl bN<|.aV rfl rfl rfl c69<|.ar rfl rfl rfl<|.aV rfl rfl rfl c69<|.cm rfl rfl rfl<|.bn rfl c69 rfl<|.mv rfl<|.aV rfl rfl rfl c70<|.ah (jU e72) trivial trivial trivial<|.bn rfl c70 rfl<|.aq rfl<|.nil) rfl ?_
             cases h
             refine .aH (fun _ _ hb=>hb) rfl (.cons (.tmp rfl) .nil) (.refl _) trivial trivial
            ·replace h:=ab c70 h
             refine .al (.mv rfl<|.cm rfl rfl rfl<|.mv rfl<|.aV rfl rfl rfl c69<|.mv rfl<|.aV rfl rfl rfl c69<|.ep rfl dp<|.aV rfl rfl rfl c69<|.mv rfl<|.aV rfl rfl rfl c69<|.ep rfl bN<|.aV rfl rfl rfl c69<|.ar rfl rfl rfl<|.aV rfl rfl rfl c69<|.cm rfl rfl rfl<|.bn rfl c69 rfl<|.mv rfl<|.aT rfl rfl rfl c70<|.bm rfl c70 rfl<|.aq rfl<|.nil) rfl ?_
             cases h
             refine .aH (fun _ _ hb=>hb) rfl (.cons (.tmp rfl) .nil) (.refl _) trivial trivial
           ·replace h:=ab c69 h
            refine .al (.mv rfl<|.cm rfl rfl rfl<|.mv rfl<|.aT rfl rfl rfl c69<|.aT rfl rfl rfl c69<|.aT rfl rfl rfl c69<|.aT rfl rfl rfl c69<|.aT rfl rfl rfl c69<|.aT rfl rfl rfl c69<|.bm rfl c69 rfl<|.mv rfl<|.aT rfl rfl rfl (by decide)<|.bm rfl (by decide) rfl<|.aq rfl<|.nil) rfl ?_
            cases h
            refine .aH (fun _ _ hb=>hb) rfl (.cons (.tmp rfl) .nil) (.refl _) trivial trivial
          ·replace h:=ab c68 h
           refine .ck rfl c68 ?_
           refine .skip (Ok.on ?_)
           by_cases c73:(v23==0)=true
           ·replace h:=aa c73 h
            obtain⟨v74,e75,h⟩:=bind_some h
            by_cases c76:v74=true
            ·replace h:=aa c76 h
             obtain⟨v77,e78,h⟩:=bind_some h
             by_cases c79:v77=true
             ·replace h:=aa c79 h
              obtain⟨v80,e81,h⟩:=bind_some h
              refine .al (.mv rfl<|.cm rfl rfl rfl<|.mv rfl<|.aV rfl rfl rfl c73<|.mv rfl<|.aV rfl rfl rfl c73<|.mv rfl<|.aV rfl rfl rfl c73<|.ah (mY e75) ⟨rfl,rfl,trivial⟩ trivial trivial<|.bn rfl c73 rfl<|.mv rfl<|.aV rfl rfl rfl c76<|.mv rfl<|.aV rfl rfl rfl c76<|.mv rfl<|.aV rfl rfl rfl c76<|.ah (gr e78) ⟨rfl,rfl,trivial⟩ trivial trivial<|.bn rfl c76 rfl<|.mv rfl<|.aV rfl rfl rfl c79<|.ah (jU e81) trivial trivial trivial<|.bn rfl c79 rfl<|.aq rfl<|.nil) rfl ?_
              cases h
              refine .aH (fun _ _ hb=>hb) rfl (.cons (.tmp rfl) .nil) (.refl _) trivial trivial
             ·replace h:=ab c79 h
              refine .al (.mv rfl<|.cm rfl rfl rfl<|.mv rfl<|.aV rfl rfl rfl c73<|.mv rfl<|.aV rfl rfl rfl c73<|.mv rfl<|.aV rfl rfl rfl c73<|.ah (mY e75) ⟨rfl,rfl,trivial⟩ trivial trivial<|.bn rfl c73 rfl<|.mv rfl<|.aV rfl rfl rfl c76<|.mv rfl<|.aV rfl rfl rfl c76<|.mv rfl<|.aV rfl rfl rfl c76<|.ah (gr e78) ⟨rfl,rfl,trivial⟩ trivial trivial<|.bn rfl c76 rfl<|.mv rfl<|.aT rfl rfl rfl c79<|.bm rfl c79 rfl<|.aq rfl<|.nil) rfl ?_
              cases h
              refine .aH (fun _ _ hb=>hb) rfl (.cons (.tmp rfl) .nil) (.refl _) trivial trivial
            ·replace h:=ab c76 h
             refine .al (.mv rfl<|.cm rfl rfl rfl<|.mv rfl<|.aV rfl rfl rfl c73<|.mv rfl<|.aV rfl rfl rfl c73<|.mv rfl<|.aV rfl rfl rfl c73<|.ah (mY e75) ⟨rfl,rfl,trivial⟩ trivial trivial<|.bn rfl c73 rfl<|.mv rfl<|.aT rfl rfl rfl c76<|.aT rfl rfl rfl c76<|.aT rfl rfl rfl c76<|.bm rfl c76 rfl<|.mv rfl<|.aT rfl rfl rfl (by decide)<|.bm rfl (by decide) rfl<|.aq rfl<|.nil) rfl ?_
             cases h
             refine .aH (fun _ _ hb=>hb) rfl (.cons (.tmp rfl) .nil) (.refl _) trivial trivial
           ·replace h:=ab c73 h
            refine .al (.mv rfl<|.cm rfl rfl rfl<|.mv rfl<|.aT rfl rfl rfl c73<|.aT rfl rfl rfl c73<|.aT rfl rfl rfl c73<|.bm rfl c73 rfl<|.mv rfl<|.aT rfl rfl rfl (by decide)<|.aT rfl rfl rfl (by decide)<|.aT rfl rfl rfl (by decide)<|.bm rfl (by decide) rfl<|.mv rfl<|.aT rfl rfl rfl (by decide)<|.bm rfl (by decide) rfl<|.aq rfl<|.nil) rfl ?_
            cases h
            refine .aH (fun _ _ hb=>hb) rfl (.cons (.tmp rfl) .nil) (.refl _) trivial trivial
end
end Go.Am
namespace Go.Am
variable {M:List (List Rat)}
def m8(M:List (List Rat))(b:List Rat)(i j:Nat):Rat:=if j<cc M then Ej M i j else b.getD i 0
def kk(M:List (List Rat)):Nat:=if M.length=0 then 0 else cc M+1
theorem ya{b:List Rat}(h:right M=true){i:Nat}(hi:i<M.length):M[i]++[b.getD i 0]=(List.range (cc M+1)).map (m8 M b i):=by
 rw[A0]
 have h1:M[i]=(List.range (cc M)).map (m8 M b i):=by
  conv=>lhs;rw[yD (r:=M[i])]
  rw[ia h hi]
  apply List.map_congr_left
  intro j hj
  unfold m8 Ej
  rw[if_pos (by simpa using hj),jO hi]
 have h2:m8 M b i (cc M)=b.getD i 0:=by unfold m8;rw[if_neg (by omega)]
 rw[h2,←h1]
theorem Ft{b:List Rat}(h:right M=true)(hl:M.length<=6)(hc:cc M<=20)(hb:b.length=M.length):Loop (fun(s:Int×(List (List Rat)))=>gV M b s.1 s.2) (0,([]:List (List Rat)))=some (bh M.length (cc M+1) (m8 M b)):=by
 have hL:=lk (body:=fun(s:Int×(List (List Rat)))=>gV M b s.1 s.2) M.length (fun i=>bh i (cc M+1) (m8 M b)) (bh M.length (cc M+1) (m8 M b)) (fun i hi=>by
  unfold gV kn
  rw[if_pos (decide_eq_true (by omega)),et hi,Option.bind_some,aQ (by rw[ia h hi];omega),Option.bind_some,FW b 0 i (by omega),Option.bind_some,aQ (by rw[ia h hi];simp only[List.length_singleton];omega),aQ (by rw[cn];omega),dL hi (by omega),ya h hi,tu]) (by
  unfold gV
  rw[if_neg (by simp)])
 exact hL
theorem FO{b:List Rat}(h:right M=true)(hl:M.length<=6)(hc:cc M<=20)(hb:b.length=M.length):Loop (fun(s:Int×(List (List Rat)))=>fu M b s.1 s.2) (0,([]:List (List Rat)))=some (bh M.length (cc M+1) (m8 M b)):=by
 have hL:=lk (body:=fun(s:Int×(List (List Rat)))=>fu M b s.1 s.2) M.length (fun i=>bh i (cc M+1) (m8 M b)) (bh M.length (cc M+1) (m8 M b)) (fun i hi=>by
  unfold fu
  rw[if_pos (decide_eq_true (by omega)),et hi,Option.bind_some,aQ (by rw[ia h hi];omega),FW b 0 i (by omega),Option.bind_some,aQ (by rw[ia h hi];simp only[List.length_singleton];omega),aQ (by rw[cn];omega),dL hi (by omega),ya h hi,tu]) (by
  unfold fu
  rw[if_neg (by simp)])
 exact hL
theorem wZ{b:List Rat}(h:right M=true)(hl:M.length<=6)(hc:cc M<=20)(hb:b.length=M.length)(hM:bd M 256)(hbs:∀j,sz (b.getD j 0)<=256):
  (iq M b=some ([],[],8)/\ja M b=some ([],[],false))\/∃x K,iq M b=some (x,K,0)/\ja M b=some (x,K,true)/\ue x (cc M) 400000000000/\K.length<=cc M/\∀r∈K,ue r (cc M) 400000000000:=by
 have hsz:pc (m8 M b) 300:=by
  intro i j
  unfold m8
  split
  ·exact Nat.le_trans (A1 hM (by decide) i j) (by decide)
  ·exact Nat.le_trans (hbs i) (by decide)
 have hag:bh M.length (cc M+1) (m8 M b)=bh M.length (kk M) (m8 M b):=by
  unfold kk
  by_cases h0:M.length=0
  ·rw[h0,if_pos rfl];rfl
  ·rw[if_neg h0]
 obtain⟨g,pv,e1,e2,hR⟩:=tj M.length (kk M) (m8 M b) hl (by unfold kk;split<;>omega) (fun h0=>by unfold kk;rw[if_pos h0]) hsz
 have hpl:=hR.len
 have hBm:300*8^M.length<=400000000000:=by
  have:=Du (show M.length<=6 from hl)
  have e:300*8^6=78643200:=by decide
  omega
 have hg:pc g 400000000000:=fun i j=>Nat.le_trans (hR.sz i j) hBm
 obtain⟨r,hr,hi⟩:=BW pv (cc M:Int) (by omega)
 have hS:iq M b=if(cc M:Int)∈pv then some ([],[],8)else((Loop (fun(s:Int×(List Rat))=>dZ (cc M:Int) (bh M.length (kk M) g) pv s.1 s.2) (0,List.replicate (cc M) (0:Rat))).bind fun x=>(Loop (fun(s:Int×(List (List Rat)))=>dv (cc M:Int) (bh M.length (kk M) g) pv s.1 s.2) (0,([]:List (List Rat)))).bind fun K=>some (x,K,0)):=by
  unfold iq
  rw[mN M (by omega),h]
  simp only[Option.bind_some,Bool.not_true,Bool.false_eq_true,if_false]
  rw[if_neg (by simp[hb]),Ft h hl hc hb]
  simp only[Option.bind_some]
  rw[hag,e1]
  simp only[Option.bind_some]
  rw[mx pv _ (by omega)]
  simp only[Option.bind_some]
  by_cases hm:(cc M:Int)∈pv
  ·rw[if_pos (decide_eq_true hm),if_pos hm]
  ·rw[if_neg (by rw[decide_eq_true_eq];exact hm),if_neg hm,aQ (by omega)]
   simp only[Int.toNat_natCast]
   cases Loop (fun(s:Int×(List Rat))=>dZ (cc M:Int) (bh M.length (kk M) g) pv s.1 s.2) (0,List.replicate (cc M) (0:Rat))with
   |none=>rfl
   |some x=>
    cases Loop (fun(s:Int×(List (List Rat)))=>dv (cc M:Int) (bh M.length (kk M) g) pv s.1 s.2) (0,([]:List (List Rat)))<;>rfl
 have hT:ja M b=if(cc M:Int)∈pv then some ([],[],false)else((Loop (fun(s:Int×(List Rat))=>dZ (cc M:Int) (bh M.length (kk M) g) pv s.1 s.2) (0,List.replicate (cc M) (0:Rat))).bind fun x=>(Loop (fun(s:Int×(List (List Rat)))=>dv (cc M:Int) (bh M.length (kk M) g) pv s.1 s.2) (0,([]:List (List Rat)))).bind fun K=>some (x,K,true)):=by
  unfold ja
  rw[kZ M (by omega),h,if_pos rfl]
  simp only[Option.bind_some]
  rw[FO h hl hc hb]
  simp only[Option.bind_some]
  rw[hag,e2]
  simp only[Option.bind_some]
  rw[hr]
  simp only[Option.bind_some]
  have e3:(fun(s:Int×(List (List Rat)))=>gm (cc M:Int) (bh M.length (kk M) g) pv s.1 s.2)=(fun(s:Int×(List (List Rat)))=>dv (cc M:Int) (bh M.length (kk M) g) pv s.1 s.2):=by
   funext s
   exact(C0 (by omega) (by omega) _ _ _).symm
  by_cases hm:(cc M:Int)∈pv
  ·rw[if_pos (decide_eq_true (hi.2 hm)),if_pos hm]
  ·rw[if_neg (by rw[decide_eq_true_eq];exact fun h'=>hm (hi.1 h')),if_neg hm,aQ (by omega),e3,Cv.symm]
   simp only[Int.toNat_natCast]
   cases Loop (fun(s:Int×(List Rat))=>dZ (cc M:Int) (bh M.length (kk M) g) pv s.1 s.2) (0,List.replicate (cc M) (0:Rat))with
   |none=>rfl
   |some x=>
    cases Loop (fun(s:Int×(List (List Rat)))=>dv (cc M:Int) (bh M.length (kk M) g) pv s.1 s.2) (0,([]:List (List Rat)))<;>rfl
 by_cases hm:(cc M:Int)∈pv
 ·left
  rw[hS,hT,if_pos hm,if_pos hm]
  exact⟨rfl,rfl⟩
 ·right
  have hkm:cc M<kk M\/pv=[]:=by
   unfold kk
   by_cases h0:M.length=0
   ·right
    exact List.eq_nil_of_length_eq_zero (by omega)
   ·left;rw[if_neg h0];omega
  have hkm2:cc M<=kk M:=by
   unfold kk
   by_cases h0:M.length=0
   ·rw[if_pos h0]
    have:cc M=0:=by unfold cc;rw[kA (by omega)];rfl
    omega
   ·rw[if_neg h0];omega
  have hrg:∀p∈pv,0<=p/\p<(cc M:Int):=fun p hp=>by
   obtain⟨h1,h2⟩:=hR.GX p hp
   have h3:p≠(cc M:Int):=fun e=>hm (e▸hp)
   refine⟨h1,?_⟩
   unfold kk at h2
   by_cases h0:M.length=0
   ·rw[if_pos h0]at h2;omega
   ·rw[if_neg h0]at h2;omega
  obtain⟨x,hx,hxb⟩:=EF (m:=kk M) (k:=cc M) hl hkm hpl hg hrg (List.replicate (cc M) 0) (xK (by decide))
  obtain⟨K,hK,hKl,hKb⟩:=AM (m:=kk M) (k:=cc M) hl (by omega) hkm2 hpl hg (Nat.le_refl _) (by decide) hrg hkm
  refine⟨x,K,?_,?_,hxb,hKl,hKb⟩
  ·rw[hS,if_neg hm,hx,Option.bind_some,hK,Option.bind_some]
  ·rw[hT,if_neg hm,hx,Option.bind_some,hK,Option.bind_some]
theorem y3(h:right M=true)(hl:M.length<=6)(hc:cc M<=20)(hM:bd M 256):∃g pv,nF M=some (bh M.length (cc M) g,pv,0)/\j0 M=some (bh M.length (cc M) g,pv)/\FY M.length (cc M) g pv:=by
 have h0:M.length=0->cc M=0:=fun h0=>by unfold cc;rw[kA (by omega)];rfl
 obtain⟨g,pv,e1,e2,hR⟩:=tj M.length (cc M) (Ej M) hl (by omega) h0 (fun i j=>Nat.le_trans (A1 hM (by decide) i j) (by decide))
 rw[←CV h]at e1 e2
 refine⟨g,pv,?_,e2,hR⟩
 unfold nF
 rw[mN M (by omega),h]
 simp only[Option.bind_some,Bool.not_true,Bool.false_eq_true,if_false]
 rw[zd M (by omega) (fun r hr=>by
  obtain⟨i,hi,rfl⟩:=List.getElem_of_mem hr
  rw[ia h hi];omega),Option.bind_some,e1]
 rfl
theorem AY(pv:List Int)(hl:pv.length<=30):Loop (fun(s:Int)=>cS pv pv s) 0=some (Ex.da ()):=
 rF (body:=fun(s:Int)=>cS pv pv s) pv.length (Ex.da ()) (fun i hi=>by
  unfold cS
  rw[if_pos (decide_eq_true (by omega)),et hi]
  simp only[Option.bind_some]
  rw[if_neg (by simp),dL hi (by omega)]) (by
  unfold cS
  rw[if_neg (by simp)])
theorem wj(x:List (List (Int×Int×Int)))(l:List (Int×Int×Int))(hx:yc x)(hl:∀e∈l,oJ e):gO x l=some true:=by
 unfold gO
 have s1:=zU x 5 (by omega)
 have c5:((5:Nat):Int)=5:=rfl
 rw[c5]at s1
 rw[s1]
 cases h1:small x 5 with
 |false=>simp[i7]
 |true=>
 simp only[Option.bind_some,Bool.not_true,Bool.false_eq_true,if_false]
 by_cases h3:(l.length:Int)>6
 ·rw[if_pos (decide_eq_true h3),i7];rfl
 rw[if_neg (by rwa [decide_eq_true_eq])]
 obtain⟨lx,rx⟩:=qS h1
 rw[E3 x hx (by omega) (fun r hr=>by have:=rx r hr;omega),xX l hl (by omega)]
 simp only[Option.bind_some]
 have bx:=Ao hx
 have bl:=vo hl
 have nx:(x.map cO).length<=5:=by simpa using lx
 have nl:(cO l).length<=6:=by simp[cO];omega
 have cx:cc (x.map cO)<=5:=by
  unfold cc
  by_cases h0:0<x.length
  ·rw[jO (by simpa using h0)]
   have:=rx x[0] (List.getElem_mem h0)
   simpa [cO]using this
  ·rw[kA (by rw[List.length_map];omega)];exact Nat.zero_le _
 have rM:∀r∈x.map cO,r.length<=30:=fun r hr=>by
  obtain⟨r',hr',rfl⟩:=List.mem_map.1 hr
  have:=rx r' hr'
  simp[cO];omega
 generalize x.map cO=M at*
 generalize cO l=v at*
 by_cases hM:right M=true
 ·obtain⟨g,pv,e1,e2,hR⟩:=y3 hM (by omega) (by omega) bx
  have hBm:300*8^M.length<=400000000000:=by
   have:=Du (show M.length<=5 from nx)
   have e:300*8^5=9830400:=by decide
   omega
  have aG:=mC (bh M.length (cc M) g) (by rw[cn];omega) (fun r hr=>by rw[tA hr];omega) (Dg (fun i j=>Nat.le_trans (hR.sz i j) hBm))
  have aM:=mC M (by omega) rM (fun r hr q hq=>Nat.le_trans (bx r hr q hq) (by decide))
  have hpl:=hR.len
  have pl:=AY pv (by omega)
  by_cases hb:v.length=M.length
  ·rcases wZ hM (by omega) (by omega) hb bx bl with⟨s1,s2⟩|⟨X,K,s1,s2,hX,hK,hKb⟩
   ·rw[e1]
    simp only[Option.bind_some]
    rw[s1]
    simp only[Option.bind_some]
    rw[kZ M (by omega),hM,if_pos rfl]
    simp only[Option.bind_some,Bool.not_true,Bool.false_eq_true,if_false]
    rw[e2]
    simp only[Option.bind_some]
    rw[if_neg (by simp),aG]
    simp only[Option.bind_some,Bool.not_true,Bool.false_eq_true,if_false]
    rw[if_neg (by simp),aM]
    simp only[Option.bind_some,Bool.not_true,Bool.false_eq_true,if_false]
    rw[pl]
    simp only[Option.bind_some]
    rw[if_neg (by simp[hb]),s2]
    simp[i7]
    rfl
   ·have aX:=uT X (by rw[hX.1];omega) hX.2
    have aK:=mC K (by omega) (fun r hr=>by rw[(hKb r hr).1];omega) (fun r hr=>(hKb r hr).2)
    rw[e1]
    simp only[Option.bind_some]
    rw[s1]
    simp only[Option.bind_some]
    rw[kZ M (by omega),hM,if_pos rfl]
    simp only[Option.bind_some,Bool.not_true,Bool.false_eq_true,if_false]
    rw[e2]
    simp only[Option.bind_some]
    rw[if_neg (by simp),aG]
    simp only[Option.bind_some,Bool.not_true,Bool.false_eq_true,if_false]
    rw[if_neg (by simp),aM]
    simp only[Option.bind_some,Bool.not_true,Bool.false_eq_true,if_false]
    rw[pl]
    simp only[Option.bind_some]
    rw[if_neg (by simp[hb]),s2]
    simp only[Option.bind_some,Bool.not_true,Bool.false_eq_true,if_false]
    rw[if_pos (show((0:Int)==0)=true from rfl),aX]
    simp only[Option.bind_some]
    rw[if_pos trivial,aK]
    simp[i7]
  ·have s1:iq M v=some ([],[],2):=by
    unfold iq
    rw[mN M (by omega),hM]
    simp only[Option.bind_some,Bool.not_true,Bool.false_eq_true,if_false]
    rw[if_pos (by simp;omega)]
   rw[e1]
   simp only[Option.bind_some]
   rw[s1]
   simp only[Option.bind_some]
   rw[kZ M (by omega),hM,if_pos rfl]
   simp only[Option.bind_some,Bool.not_true,Bool.false_eq_true,if_false]
   rw[e2]
   simp only[Option.bind_some]
   rw[if_neg (by simp),aG]
   simp only[Option.bind_some,Bool.not_true,Bool.false_eq_true,if_false]
   rw[if_neg (by simp),aM]
   simp only[Option.bind_some,Bool.not_true,Bool.false_eq_true,if_false]
   rw[pl]
   simp only[Option.bind_some]
   rw[if_pos (by simp;omega)]
   simp[i7]
   rfl
 ·have hM:right M=false:=by simpa using hM
  have e1:nF M=some ([],[],2):=by
   unfold nF
   rw[mN M (by omega),hM];rfl
  have e2:iq M v=some ([],[],2):=by
   unfold iq
   rw[mN M (by omega),hM];rfl
  rw[e1]
  simp only[Option.bind_some]
  rw[e2]
  simp only[Option.bind_some]
  rw[kZ M (by omega),hM]
  simp[i7]
  rfl
end Go.Am
