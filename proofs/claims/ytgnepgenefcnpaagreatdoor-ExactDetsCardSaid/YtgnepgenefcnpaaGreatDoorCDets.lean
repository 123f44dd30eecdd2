/- ExactDets: the walk of the law, and its plain law: it returns true for every input. No condition. -/
import Derived.Test.YtgnepgenefcnpaaGreatDoorBhG
set_option linter.unusedVariables false
set_option linter.unusedSimpArgs false
namespace Go.Am
open Go.RowKit
set_option maxRecDepth 100000
noncomputable section
def eK(a2:List Rat)(v3:List Rat)(v10:Int)(v11:Rat):Option (St (Int×Rat) Rat):=(if(decide (v10<(v3.length:Int)))=true then(ix v3 v10).bind fun v17=>(ix a2 v10).bind fun v19=>(fh v17 v19).bind fun v21=>(jj v11 v21).bind fun v23=>some (St.next ((IntKind.i64.wrap (v10+1)),v23))else some (St.done v11))
def gw(a1:List (List Rat))(a2:List Rat):Option Bool:=(qL a1 a2).bind fun(v3,v4)=>(if(v4 !=0)=true then some false else(if((v3.length:Int) !=(a2.length:Int))=true then some false else((Loop (fun(s:Int×Rat)=>eK a2 v3 s.1 s.2) (0,0)).bind fun v25=>some (v25)).bind fun v26=>(cW v26).bind fun v27=>some (decide (v27<0))))
theorem kQ{a1:List (List Rat)}{a2:List Rat}{r29:Bool}(h:gw a1 a2=some r29):bf PP 130 [] [ai (ak.slice ak.rat) a1,ai ak.rat a2] [] (D.bool r29):=by
 unfold gw at h;refine .of Go.Proofs.Tryz.func130 rfl (by kernel_rfl) rfl rfl rfl rfl rfl rfl (fun A w0 L b=>?_);show Ok PP _ [(0,ai (ak.slice ak.rat) a1),(1,ai ak.rat a2)] [] _ _;refine .al (.aq rfl<|.nil) rfl ?_;obtain⟨⟨v3,v4⟩,e5,h⟩:=bind_some h;refine .al (.mv rfl<|.mv rfl<|.ag (Fm e5) ⟨rfl,rfl,trivial⟩ trivial trivial<|.mv rfl<|.ext rfl rfl<|.ext rfl rfl<|.aq rfl<|.aq rfl<|.nil) rfl ?_;refine .sq ?_;by_cases c6:(v4 !=0)=true
 ·replace h:=ab c6 h;refine .al (.mv rfl<|.cm rfl rfl rfl<|.mv rfl<|.gk c6<|.gk c6<|.gk c6<|.gk c6<|.gk c6<|.aX rfl c6 rfl<|.nil) rfl ?_;refine .cl rfl rfl ?_;refine .al (.aq rfl<|.nil) rfl ?_;cases h;refine .aO (fun _ _ hb=>hb) rfl (.t1 (.tmp rfl)) (.refl _) trivial trivial
 ·replace h:=aa c6 h;refine .al (.mv rfl<|.cm rfl rfl rfl<|.mv rfl<|.gz c6<|.mv rfl<|.gz c6<|.ec rfl bP<|.gz c6<|.mv rfl<|.gz c6<|.ec rfl bP<|.gz c6<|.cm rfl rfl rfl<|.aT rfl c6 rfl<|.nil) rfl ?_;by_cases c7:((v3.length:Int) !=(a2.length:Int))=true
  ·replace h:=ab c7 h;refine .cl rfl c7 ?_;refine .al (.aq rfl<|.nil) rfl ?_;cases h;refine .aO (fun _ _ hb=>hb) rfl (.t1 (.tmp rfl)) (.refl _) trivial trivial
  ·replace h:=aa c7 h;refine .cq rfl c7 ?_;refine .skip (Ok.on ?_);refine .al (.fN (qC (0)) aI ⟨lY,lZ,l4,trivial⟩ rfl<|.nil) rfl ?_;obtain⟨v26,hp9,h⟩:=bind_some h;refine .cc (fun i=>v26=i) (fun(i:Rat)=>[(7,D.ref 7 0)]) (fun(i:Rat)=>[(7,Hp.box 28 (qC (i)))]) ?_ ?_
   ·have ho1:=h;have h:=hp9;refine .al (.aq rfl<|.nil) rfl ?_;obtain⟨o12,hl13,h⟩:=bind_some h;have ho2:=h;refine .block (.bU (fun(s:Int×Rat)=>[(1,ai ak.rat a2),(5,ai ak.rat v3),(7,D.ref 7 0),(8,D.int .i64 s.1)]) (fun(s:Int×Rat)=>[(7,Hp.box 28 (qC (s.2)))]) hl13 (.of rfl) (.of rfl) rfl rfl ?_);rintro⟨v10,v11⟩ st14 hb15;have h:eK a2 v3 v10 v11=some st14:=hb15;unfold eK at h
    try dsimp only
    refine .sq ?_;refine .al (.mv rfl<|.mv rfl<|.ec rfl bP<|.cm rfl rfl rfl<|.nil) rfl ?_;by_cases c16:(decide (v10<(v3.length:Int)))=true
    ·replace h:=ab c16 h;refine .cl rfl c16 ?_;refine .skip (Ok.on ?_);refine .sq ?_;refine .block ?_;obtain⟨v17,e18,h⟩:=bind_some h;obtain⟨v19,e20,h⟩:=bind_some h;obtain⟨v21,e22,h⟩:=bind_some h;obtain⟨v23,e24,h⟩:=bind_some h;refine .c_ cf (.ck (qC (v11)) rfl rfl ae rfl rfl<|.mv rfl<|.mv rfl<|.ll rfl rfl aV (af e18).1 (af e18).2<|.Cy (l:=qC (v17)) rfl ae rfl<|.mv rfl<|.mv rfl<|.ll rfl rfl aV (af e20).1 (af e20).2<|.Cy (l:=qC (v19)) rfl ae rfl<|.ag (lE e22) ⟨rfl,rfl,trivial⟩ trivial trivial<|.ag (mL e24) ⟨rfl,rfl,trivial⟩ trivial trivial<|.cU (qC (v23)) rfl rfl rfl ae rfl rfl rfl<|.nil) rfl (by kernel_rfl) (Ok.on ?_);refine .region (.mv rfl<|.ar rfl rfl rfl<|.aq rfl<|.nil) rfl (fun _ _ hs=>⟨((IntKind.i64.wrap (v10+1)),v23),(sj h),hs.sub (.of rfl) (.of rfl) rfl rfl⟩)
    ·replace h:=aa c16 h;refine .cq rfl c16 ?_;refine .exit (fun a w hs=>⟨_,(sj h),fun e=>by subst e;have h:=ho2;exact aS (⟨v11,(sj h),hs.sub (.of rfl) (.of rfl) rfl rfl⟩)⟩)
   ·rintro _ rfl
    try dsimp only
    obtain⟨v27,e28,h⟩:=bind_some h;refine .al (.ck (qC (v26)) rfl rfl ae rfl rfl<|.ag (iv e28) ⟨rfl,trivial⟩ trivial trivial<|.cm rfl rfl rfl<|.aq rfl<|.nil) rfl ?_;cases h;refine .aO (fun _ _ hb=>hb) rfl (.t1 (.tmp rfl)) (.refl _) trivial trivial
def j_(a1:List (List (Int×Int×Int))):Option Bool:=(mz a1 4).bind fun v2=>(if(!v2)=true then(gT).bind fun v5=>some v5 else(qB a1).bind fun(v7,v8)=>(ld v8).bind fun(v10,v11)=>(tY v7).bind fun(v13,v14)=>(iH v7).bind fun(v16,v17)=>(dm v7).bind fun(v19,v20,v21)=>(if(!v11)=true then(if(v14==2)=true then(if(v17==2)=true then(if(v21==2)=true then(cW v13).bind fun v27=>(if(v27==0)=true then(if((IntKind.i64.wrap ((v16.length:Int)+(v20.length:Int)))==0)=true then(if(!v19)=true then(gT).bind fun v32=>some v32 else some false)else some false)else some false)else some false)else some false)else some false)else(if(v10 !=(v8.length:Int))=true then(if(v14==2)=true then(if(v17==2)=true then(if(v21==2)=true then(cW v13).bind fun v38=>(if(v38==0)=true then(if((IntKind.i64.wrap ((v16.length:Int)+(v20.length:Int)))==0)=true then(if(!v19)=true then(gT).bind fun v43=>some v43 else some false)else some false)else some false)else some false)else some false)else some false)else(if(v14 !=0)=true then some false else(oB v8).bind fun v46=>(mH v13 v46).bind fun v48=>(if(!v48)=true then some false else(iw v8).bind fun(v51,v52)=>((if(!v52)=true then(if(v17 !=8)=true then some (Ex.ret false)else(if((v16.length:Int) !=0)=true then some (Ex.ret false)else(if v52=true then(if(v17 !=0)=true then some (Ex.ret false)else(gG v16 v51).bind fun v61=>(if(!v61)=true then some (Ex.ret false)else some (Ex.cd ())))else some (Ex.cd ()))))else(if v52=true then(if(v17 !=0)=true then some (Ex.ret false)else(gG v16 v51).bind fun v66=>(if(!v66)=true then some (Ex.ret false)else some (Ex.cd ())))else some (Ex.cd ())))).bind fun o54=>(match o54 with|Ex.cd ()=>(fE v8).bind fun v69=>(if(!v69)=true then(if(v21==2)=true then(if(!v19)=true then(if((v20.length:Int)==0)=true then(gT).bind fun v75=>some v75 else some false)else some false)else some false)else(if(v21 !=0)=true then some false else(cK v8).bind fun v78=>(if(!(v19==v78))=true then some false else(if v19=true then(if((v20.length:Int)==0)=true then(gT).bind fun v83=>some v83 else(if(!v19)=true then(gw v7 v20).bind fun v86=>(if v86=true then(gT).bind fun v89=>some v89 else some false)else some false))else(if(!v19)=true then(gw v7 v20).bind fun v92=>(if v92=true then(gT).bind fun v95=>some v95 else some false)else some false)))))|Ex.ret r97=>some r97))))))
theorem vq{a1:List (List (Int×Int×Int))}{r98:Bool}(h:j_ a1=some r98):bf PP 19 [] [ai (ak.slice (ak.prod (ak.int .i64) (ak.prod (ak.int .i64) (ak.int .u8)))) a1] [] (D.bool r98):=by
 unfold j_ at h;refine .of Go.Proofs.Tryz.func19 rfl (by kernel_rfl) rfl rfl rfl rfl rfl rfl (fun A w0 L b=>?_);show Ok PP _ [(0,ai (ak.slice (ak.prod (ak.int .i64) (ak.prod (ak.int .i64) (ak.int .u8)))) a1)] [] _ _;refine .al (.aq rfl<|.nil) rfl ?_;refine .sq ?_;obtain⟨v2,e3,h⟩:=bind_some h;refine .al (.mv rfl<|.ag (B7 e3) ⟨rfl,rfl,trivial⟩ trivial trivial<|.not rfl<|.nil) rfl ?_;by_cases c4:(!v2)=true
 ·replace h:=ab c4 h;refine .cl rfl c4 ?_;obtain⟨v5,e6,h⟩:=bind_some h;refine .al (.ag (jT e6) trivial trivial trivial<|.aq rfl<|.nil) rfl ?_;cases h;refine .aO (fun _ _ hb=>hb) rfl (.t1 (.tmp rfl)) (.refl _) trivial trivial
 ·replace h:=aa c4 h;refine .cq rfl c4 ?_;refine .skip (Ok.on ?_);obtain⟨⟨v7,v8⟩,e9,h⟩:=bind_some h;refine .al (.mv rfl<|.ag (Gf e9) ⟨rfl,trivial⟩ trivial trivial<|.mv rfl<|.ext rfl rfl<|.ext rfl rfl<|.aq rfl<|.aq rfl<|.nil) rfl ?_;obtain⟨⟨v10,v11⟩,e12,h⟩:=bind_some h;refine .al (.mv rfl<|.ag (wv e12) ⟨rfl,trivial⟩ trivial trivial<|.mv rfl<|.ext rfl rfl<|.ext rfl rfl<|.aq rfl<|.aq rfl<|.nil) rfl ?_;obtain⟨⟨v13,v14⟩,e15,h⟩:=bind_some h;refine .al (.mv rfl<|.ag (IZ e15) ⟨rfl,trivial⟩ trivial trivial<|.mv rfl<|.ext rfl rfl<|.ext rfl rfl<|.fN (qC (0)) aI ⟨lY,lZ,l4,trivial⟩ rfl<|.cU (qC (v13)) rfl rfl rfl ae rfl rfl rfl<|.aq rfl<|.nil) rfl ?_;obtain⟨⟨v16,v17⟩,e18,h⟩:=bind_some h;refine .al (.mv rfl<|.ag (BV e18) ⟨rfl,trivial⟩ trivial trivial<|.mv rfl<|.ext rfl rfl<|.ext rfl rfl<|.aq rfl<|.aq rfl<|.nil) rfl ?_;obtain⟨⟨v19,v20,v21⟩,e22,h⟩:=bind_some h;refine .al (.mv rfl<|.ag (tK e22) ⟨rfl,trivial⟩ trivial trivial<|.mv rfl<|.ext rfl rfl<|.ext rfl rfl<|.ext rfl rfl<|.aq rfl<|.aq rfl<|.aq rfl<|.nil) rfl ?_;refine .sq ?_;by_cases c23:(!v11)=true
  ·replace h:=ab c23 h;refine .al (.mv rfl<|.not rfl<|.mv rfl<|.gk c23<|.gk c23<|.gk c23<|.gk c23<|.aX rfl c23 rfl<|.nil) rfl ?_;refine .cl rfl rfl ?_;by_cases c24:(v14==2)=true
   ·replace h:=ab c24 h;by_cases c25:(v17==2)=true
    ·replace h:=ab c25 h;by_cases c26:(v21==2)=true
     ·replace h:=ab c26 h;obtain⟨v27,e28,h⟩:=bind_some h;by_cases c29:(v27==0)=true
      ·replace h:=ab c29 h;by_cases c30:((IntKind.i64.wrap ((v16.length:Int)+(v20.length:Int)))==0)=true
       ·replace h:=ab c30 h;by_cases c31:(!v19)=true
        ·replace h:=ab c31 h;obtain⟨v32,e33,h⟩:=bind_some h;refine .al (.mv rfl<|.cm rfl rfl rfl<|.mv rfl<|.gy c24<|.mv rfl<|.gy c24<|.cm rfl rfl rfl<|.aX rfl c24 rfl<|.mv rfl<|.gy c25<|.mv rfl<|.gy c25<|.cm rfl rfl rfl<|.aX rfl c25 rfl<|.mv rfl<|.gy c26<|.ck (qC (v13)) rfl rfl ae rfl rfl<|.gy c26<|.ag (iv e28) ⟨rfl,trivial⟩ trivial trivial<|.gy c26<|.cm rfl rfl rfl<|.aX rfl c26 rfl<|.mv rfl<|.gy c29<|.mv rfl<|.gy c29<|.ec rfl bA<|.gy c29<|.mv rfl<|.gy c29<|.ec rfl bP<|.gy c29<|.ar rfl rfl rfl<|.gy c29<|.cm rfl rfl rfl<|.aX rfl c29 rfl<|.mv rfl<|.gy c30<|.mv rfl<|.gy c30<|.not rfl<|.aX rfl c30 rfl<|.mv rfl<|.gy c31<|.ag (jT e33) trivial trivial trivial<|.aX rfl c31 rfl<|.aq rfl<|.nil) rfl ?_;cases h;refine .aO (fun _ _ hb=>hb) rfl (.t1 (.tmp rfl)) (.refl _) trivial trivial
        ·replace h:=aa c31 h;refine .al (.mv rfl<|.cm rfl rfl rfl<|.mv rfl<|.gy c24<|.mv rfl<|.gy c24<|.cm rfl rfl rfl<|.aX rfl c24 rfl<|.mv rfl<|.gy c25<|.mv rfl<|.gy c25<|.cm rfl rfl rfl<|.aX rfl c25 rfl<|.mv rfl<|.gy c26<|.ck (qC (v13)) rfl rfl ae rfl rfl<|.gy c26<|.ag (iv e28) ⟨rfl,trivial⟩ trivial trivial<|.gy c26<|.cm rfl rfl rfl<|.aX rfl c26 rfl<|.mv rfl<|.gy c29<|.mv rfl<|.gy c29<|.ec rfl bA<|.gy c29<|.mv rfl<|.gy c29<|.ec rfl bP<|.gy c29<|.ar rfl rfl rfl<|.gy c29<|.cm rfl rfl rfl<|.aX rfl c29 rfl<|.mv rfl<|.gy c30<|.mv rfl<|.gy c30<|.not rfl<|.aX rfl c30 rfl<|.mv rfl<|.gm c31<|.aT rfl c31 rfl<|.aq rfl<|.nil) rfl ?_;cases h;refine .aO (fun _ _ hb=>hb) rfl (.t1 (.tmp rfl)) (.refl _) trivial trivial
       ·replace h:=aa c30 h;refine .al (.mv rfl<|.cm rfl rfl rfl<|.mv rfl<|.gy c24<|.mv rfl<|.gy c24<|.cm rfl rfl rfl<|.aX rfl c24 rfl<|.mv rfl<|.gy c25<|.mv rfl<|.gy c25<|.cm rfl rfl rfl<|.aX rfl c25 rfl<|.mv rfl<|.gy c26<|.ck (qC (v13)) rfl rfl ae rfl rfl<|.gy c26<|.ag (iv e28) ⟨rfl,trivial⟩ trivial trivial<|.gy c26<|.cm rfl rfl rfl<|.aX rfl c26 rfl<|.mv rfl<|.gy c29<|.mv rfl<|.gy c29<|.ec rfl bA<|.gy c29<|.mv rfl<|.gy c29<|.ec rfl bP<|.gy c29<|.ar rfl rfl rfl<|.gy c29<|.cm rfl rfl rfl<|.aX rfl c29 rfl<|.mv rfl<|.gm c30<|.gm c30<|.aT rfl c30 rfl<|.mv rfl<|.bH<|.aT rfl (by decide) rfl<|.aq rfl<|.nil) rfl ?_;cases h;refine .aO (fun _ _ hb=>hb) rfl (.t1 (.tmp rfl)) (.refl _) trivial trivial
      ·replace h:=aa c29 h;refine .al (.mv rfl<|.cm rfl rfl rfl<|.mv rfl<|.gy c24<|.mv rfl<|.gy c24<|.cm rfl rfl rfl<|.aX rfl c24 rfl<|.mv rfl<|.gy c25<|.mv rfl<|.gy c25<|.cm rfl rfl rfl<|.aX rfl c25 rfl<|.mv rfl<|.gy c26<|.ck (qC (v13)) rfl rfl ae rfl rfl<|.gy c26<|.ag (iv e28) ⟨rfl,trivial⟩ trivial trivial<|.gy c26<|.cm rfl rfl rfl<|.aX rfl c26 rfl<|.mv rfl<|.gm c29<|.gm c29<|.gm c29<|.gm c29<|.gm c29<|.gm c29<|.aT rfl c29 rfl<|.mv rfl<|.bH<|.bH<|.aT rfl (by decide) rfl<|.mv rfl<|.bH<|.aT rfl (by decide) rfl<|.aq rfl<|.nil) rfl ?_;cases h;refine .aO (fun _ _ hb=>hb) rfl (.t1 (.tmp rfl)) (.refl _) trivial trivial
     ·replace h:=aa c26 h;refine .al (.mv rfl<|.cm rfl rfl rfl<|.mv rfl<|.gy c24<|.mv rfl<|.gy c24<|.cm rfl rfl rfl<|.aX rfl c24 rfl<|.mv rfl<|.gy c25<|.mv rfl<|.gy c25<|.cm rfl rfl rfl<|.aX rfl c25 rfl<|.mv rfl<|.gm c26<|.gm c26<|.gm c26<|.aT rfl c26 rfl<|.mv rfl<|.bH<|.bH<|.bH<|.bH<|.bH<|.bH<|.aT rfl (by decide) rfl<|.mv rfl<|.bH<|.bH<|.aT rfl (by decide) rfl<|.mv rfl<|.bH<|.aT rfl (by decide) rfl<|.aq rfl<|.nil) rfl ?_;cases h;refine .aO (fun _ _ hb=>hb) rfl (.t1 (.tmp rfl)) (.refl _) trivial trivial
    ·replace h:=aa c25 h;refine .al (.mv rfl<|.cm rfl rfl rfl<|.mv rfl<|.gy c24<|.mv rfl<|.gy c24<|.cm rfl rfl rfl<|.aX rfl c24 rfl<|.mv rfl<|.gm c25<|.gm c25<|.aT rfl c25 rfl<|.mv rfl<|.bH<|.bH<|.bH<|.aT rfl (by decide) rfl<|.mv rfl<|.bH<|.bH<|.bH<|.bH<|.bH<|.bH<|.aT rfl (by decide) rfl<|.mv rfl<|.bH<|.bH<|.aT rfl (by decide) rfl<|.mv rfl<|.bH<|.aT rfl (by decide) rfl<|.aq rfl<|.nil) rfl ?_;cases h;refine .aO (fun _ _ hb=>hb) rfl (.t1 (.tmp rfl)) (.refl _) trivial trivial
   ·replace h:=aa c24 h;refine .al (.mv rfl<|.cm rfl rfl rfl<|.mv rfl<|.gm c24<|.gm c24<|.aT rfl c24 rfl<|.mv rfl<|.bH<|.bH<|.aT rfl (by decide) rfl<|.mv rfl<|.bH<|.bH<|.bH<|.aT rfl (by decide) rfl<|.mv rfl<|.bH<|.bH<|.bH<|.bH<|.bH<|.bH<|.aT rfl (by decide) rfl<|.mv rfl<|.bH<|.bH<|.aT rfl (by decide) rfl<|.mv rfl<|.bH<|.aT rfl (by decide) rfl<|.aq rfl<|.nil) rfl ?_;cases h;refine .aO (fun _ _ hb=>hb) rfl (.t1 (.tmp rfl)) (.refl _) trivial trivial
  ·replace h:=aa c23 h;refine .al (.mv rfl<|.not rfl<|.mv rfl<|.gz c23<|.mv rfl<|.gz c23<|.mv rfl<|.gz c23<|.ec rfl aJ<|.gz c23<|.cm rfl rfl rfl<|.aT rfl c23 rfl<|.nil) rfl ?_;by_cases c34:(v10 !=(v8.length:Int))=true
   ·replace h:=ab c34 h;refine .cl rfl c34 ?_;by_cases c35:(v14==2)=true
    ·replace h:=ab c35 h;by_cases c36:(v17==2)=true
     ·replace h:=ab c36 h;by_cases c37:(v21==2)=true
      ·replace h:=ab c37 h;obtain⟨v38,e39,h⟩:=bind_some h;by_cases c40:(v38==0)=true
       ·replace h:=ab c40 h;by_cases c41:((IntKind.i64.wrap ((v16.length:Int)+(v20.length:Int)))==0)=true
        ·replace h:=ab c41 h;by_cases c42:(!v19)=true
         ·replace h:=ab c42 h;obtain⟨v43,e44,h⟩:=bind_some h;refine .al (.mv rfl<|.cm rfl rfl rfl<|.mv rfl<|.gy c35<|.mv rfl<|.gy c35<|.cm rfl rfl rfl<|.aX rfl c35 rfl<|.mv rfl<|.gy c36<|.mv rfl<|.gy c36<|.cm rfl rfl rfl<|.aX rfl c36 rfl<|.mv rfl<|.gy c37<|.ck (qC (v13)) rfl rfl ae rfl rfl<|.gy c37<|.ag (iv e39) ⟨rfl,trivial⟩ trivial trivial<|.gy c37<|.cm rfl rfl rfl<|.aX rfl c37 rfl<|.mv rfl<|.gy c40<|.mv rfl<|.gy c40<|.ec rfl bA<|.gy c40<|.mv rfl<|.gy c40<|.ec rfl bP<|.gy c40<|.ar rfl rfl rfl<|.gy c40<|.cm rfl rfl rfl<|.aX rfl c40 rfl<|.mv rfl<|.gy c41<|.mv rfl<|.gy c41<|.not rfl<|.aX rfl c41 rfl<|.mv rfl<|.gy c42<|.ag (jT e44) trivial trivial trivial<|.aX rfl c42 rfl<|.aq rfl<|.nil) rfl ?_;cases h;refine .aO (fun _ _ hb=>hb) rfl (.t1 (.tmp rfl)) (.refl _) trivial trivial
         ·replace h:=aa c42 h;refine .al (.mv rfl<|.cm rfl rfl rfl<|.mv rfl<|.gy c35<|.mv rfl<|.gy c35<|.cm rfl rfl rfl<|.aX rfl c35 rfl<|.mv rfl<|.gy c36<|.mv rfl<|.gy c36<|.cm rfl rfl rfl<|.aX rfl c36 rfl<|.mv rfl<|.gy c37<|.ck (qC (v13)) rfl rfl ae rfl rfl<|.gy c37<|.ag (iv e39) ⟨rfl,trivial⟩ trivial trivial<|.gy c37<|.cm rfl rfl rfl<|.aX rfl c37 rfl<|.mv rfl<|.gy c40<|.mv rfl<|.gy c40<|.ec rfl bA<|.gy c40<|.mv rfl<|.gy c40<|.ec rfl bP<|.gy c40<|.ar rfl rfl rfl<|.gy c40<|.cm rfl rfl rfl<|.aX rfl c40 rfl<|.mv rfl<|.gy c41<|.mv rfl<|.gy c41<|.not rfl<|.aX rfl c41 rfl<|.mv rfl<|.gm c42<|.aT rfl c42 rfl<|.aq rfl<|.nil) rfl ?_;cases h;refine .aO (fun _ _ hb=>hb) rfl (.t1 (.tmp rfl)) (.refl _) trivial trivial
        ·replace h:=aa c41 h;refine .al (.mv rfl<|.cm rfl rfl rfl<|.mv rfl<|.gy c35<|.mv rfl<|.gy c35<|.cm rfl rfl rfl<|.aX rfl c35 rfl<|.mv rfl<|.gy c36<|.mv rfl<|.gy c36<|.cm rfl rfl rfl<|.aX rfl c36 rfl<|.mv rfl<|.gy c37<|.ck (qC (v13)) rfl rfl ae rfl rfl<|.gy c37<|.ag (iv e39) ⟨rfl,trivial⟩ trivial trivial<|.gy c37<|.cm rfl rfl rfl<|.aX rfl c37 rfl<|.mv rfl<|.gy c40<|.mv rfl<|.gy c40<|.ec rfl bA<|.gy c40<|.mv rfl<|.gy c40<|.ec rfl bP<|.gy c40<|.ar rfl rfl rfl<|.gy c40<|.cm rfl rfl rfl<|.aX rfl c40 rfl<|.mv rfl<|.gm c41<|.gm c41<|.aT rfl c41 rfl<|.mv rfl<|.bH<|.aT rfl (by decide) rfl<|.aq rfl<|.nil) rfl ?_;cases h;refine .aO (fun _ _ hb=>hb) rfl (.t1 (.tmp rfl)) (.refl _) trivial trivial
       ·replace h:=aa c40 h;refine .al (.mv rfl<|.cm rfl rfl rfl<|.mv rfl<|.gy c35<|.mv rfl<|.gy c35<|.cm rfl rfl rfl<|.aX rfl c35 rfl<|.mv rfl<|.gy c36<|.mv rfl<|.gy c36<|.cm rfl rfl rfl<|.aX rfl c36 rfl<|.mv rfl<|.gy c37<|.ck (qC (v13)) rfl rfl ae rfl rfl<|.gy c37<|.ag (iv e39) ⟨rfl,trivial⟩ trivial trivial<|.gy c37<|.cm rfl rfl rfl<|.aX rfl c37 rfl<|.mv rfl<|.gm c40<|.gm c40<|.gm c40<|.gm c40<|.gm c40<|.gm c40<|.aT rfl c40 rfl<|.mv rfl<|.bH<|.bH<|.aT rfl (by decide) rfl<|.mv rfl<|.bH<|.aT rfl (by decide) rfl<|.aq rfl<|.nil) rfl ?_;cases h;refine .aO (fun _ _ hb=>hb) rfl (.t1 (.tmp rfl)) (.refl _) trivial trivial
      ·replace h:=aa c37 h;refine .al (.mv rfl<|.cm rfl rfl rfl<|.mv rfl<|.gy c35<|.mv rfl<|.gy c35<|.cm rfl rfl rfl<|.aX rfl c35 rfl<|.mv rfl<|.gy c36<|.mv rfl<|.gy c36<|.cm rfl rfl rfl<|.aX rfl c36 rfl<|.mv rfl<|.gm c37<|.gm c37<|.gm c37<|.aT rfl c37 rfl<|.mv rfl<|.bH<|.bH<|.bH<|.bH<|.bH<|.bH<|.aT rfl (by decide) rfl<|.mv rfl<|.bH<|.bH<|.aT rfl (by decide) rfl<|.mv rfl<|.bH<|.aT rfl (by decide) rfl<|.aq rfl<|.nil) rfl ?_;cases h;refine .aO (fun _ _ hb=>hb) rfl (.t1 (.tmp rfl)) (.refl _) trivial trivial
     ·replace h:=aa c36 h;refine .al (.mv rfl<|.cm rfl rfl rfl<|.mv rfl<|.gy c35<|.mv rfl<|.gy c35<|.cm rfl rfl rfl<|.aX rfl c35 rfl<|.mv rfl<|.gm c36<|.gm c36<|.aT rfl c36 rfl<|.mv rfl<|.bH<|.bH<|.bH<|.aT rfl (by decide) rfl<|.mv rfl<|.bH<|.bH<|.bH<|.bH<|.bH<|.bH<|.aT rfl (by decide) rfl<|.mv rfl<|.bH<|.bH<|.aT rfl (by decide) rfl<|.mv rfl<|.bH<|.aT rfl (by decide) rfl<|.aq rfl<|.nil) rfl ?_;cases h;refine .aO (fun _ _ hb=>hb) rfl (.t1 (.tmp rfl)) (.refl _) trivial trivial
    ·replace h:=aa c35 h;refine .al (.mv rfl<|.cm rfl rfl rfl<|.mv rfl<|.gm c35<|.gm c35<|.aT rfl c35 rfl<|.mv rfl<|.bH<|.bH<|.aT rfl (by decide) rfl<|.mv rfl<|.bH<|.bH<|.bH<|.aT rfl (by decide) rfl<|.mv rfl<|.bH<|.bH<|.bH<|.bH<|.bH<|.bH<|.aT rfl (by decide) rfl<|.mv rfl<|.bH<|.bH<|.aT rfl (by decide) rfl<|.mv rfl<|.bH<|.aT rfl (by decide) rfl<|.aq rfl<|.nil) rfl ?_;cases h;refine .aO (fun _ _ hb=>hb) rfl (.t1 (.tmp rfl)) (.refl _) trivial trivial
   ·replace h:=aa c34 h;refine .cq rfl c34 ?_;refine .skip (Ok.on ?_);refine .sq ?_;by_cases c45:(v14 !=0)=true
    ·replace h:=ab c45 h;refine .cZ cf (.mv rfl<|.cm rfl rfl rfl<|.mv rfl<|.gk c45<|.gk c45<|.gk c45<|.gk c45<|.gk c45<|.aX rfl c45 rfl<|.nil) rfl (by kernel_rfl) ?_;refine .cl rfl rfl ?_;refine .al (.aq rfl<|.nil) rfl ?_;cases h;refine .aO (fun _ _ hb=>hb) rfl (.t1 (.tmp rfl)) (.refl _) trivial trivial
    ·replace h:=aa c45 h;obtain⟨v46,e47,h⟩:=bind_some h;obtain⟨v48,e49,h⟩:=bind_some h;refine .cZ cf (.mv rfl<|.cm rfl rfl rfl<|.mv rfl<|.gz c45<|.ck (qC (v13)) rfl rfl ae rfl rfl<|.gz c45<|.mv rfl<|.gz c45<|.ag (AP e47) ⟨rfl,trivial⟩ trivial trivial<|.gz c45<|.ag (xR e49) ⟨rfl,rfl,trivial⟩ trivial trivial<|.gz c45<|.not rfl<|.aT rfl c45 rfl<|.nil) rfl (by kernel_rfl) ?_;by_cases c50:(!v48)=true
     ·replace h:=ab c50 h;refine .cl rfl c50 ?_;refine .al (.aq rfl<|.nil) rfl ?_;cases h;refine .aO (fun _ _ hb=>hb) rfl (.t1 (.tmp rfl)) (.refl _) trivial trivial
     ·replace h:=aa c50 h;refine .cq rfl c50 ?_;refine .skip (Ok.on ?_);obtain⟨⟨v51,v52⟩,e53,h⟩:=bind_some h;refine .al (.mv rfl<|.ag (yF e53) ⟨rfl,trivial⟩ trivial trivial<|.mv rfl<|.ext rfl rfl<|.ext rfl rfl<|.aq rfl<|.aq rfl<|.nil) rfl ?_;obtain⟨o54,hp55,h⟩:=bind_some h;refine .cc (fun i=>o54=Ex.cd i) (fun(i:Unit)=>[(3,ai (ak.slice ak.rat) v7),(4,ai (ak.slice ak.rq) v8),(11,D.bool v19),(12,ai ak.rat v20),(13,D.int .i64 v21)]) (fun(i:Unit)=>[]) ?_ ?_
      ·have ho1:=h;have h:=hp55;by_cases c56:(!v52)=true
       ·replace h:=ab c56 h;by_cases c57:(v17 !=8)=true
        ·replace h:=ab c57 h;refine .al (.mv rfl<|.not rfl<|.mv rfl<|.gy c56<|.mv rfl<|.gy c56<|.cm rfl rfl rfl<|.gy c56<|.mv rfl<|.gk c57<|.gk c57<|.gk c57<|.gy c56<|.aX rfl c57 rfl<|.aX rfl c56 rfl<|.mv rfl<|.gk rfl<|.gk rfl<|.gu<|.gu<|.gu<|.gu<|.gu<|.gu<|.gu<|.gu<|.gk rfl<|.aX rfl rfl rfl<|.nil) rfl ?_;refine .cl rfl rfl ?_;refine .al (.aq rfl<|.nil) rfl ?_;cases h;have h:=ho1;cases h;refine .aO (fun _ _ hb=>hb) rfl (.t1 (.tmp rfl)) (.refl _) trivial trivial
        ·replace h:=aa c57 h;by_cases c58:((v16.length:Int) !=0)=true
         ·replace h:=ab c58 h;refine .al (.mv rfl<|.not rfl<|.mv rfl<|.gy c56<|.mv rfl<|.gy c56<|.cm rfl rfl rfl<|.gy c56<|.mv rfl<|.gz c57<|.mv rfl<|.gz c57<|.ec rfl bA<|.gz c57<|.cm rfl rfl rfl<|.gy c56<|.aT rfl c57 rfl<|.aX rfl c56 rfl<|.mv rfl<|.gk c58<|.gk c58<|.gu<|.gu<|.gu<|.gu<|.gu<|.gu<|.gu<|.gu<|.gk c58<|.aX rfl c58 rfl<|.nil) rfl ?_;refine .cl rfl rfl ?_;refine .al (.aq rfl<|.nil) rfl ?_;cases h;have h:=ho1;cases h;refine .aO (fun _ _ hb=>hb) rfl (.t1 (.tmp rfl)) (.refl _) trivial trivial
         ·replace h:=aa c58 h;by_cases c59:v52=true
          ·replace h:=ab c59 h;by_cases c60:(v17 !=0)=true
           ·replace h:=ab c60 h;refine .al (.mv rfl<|.not rfl<|.mv rfl<|.gy c56<|.mv rfl<|.gy c56<|.cm rfl rfl rfl<|.gy c56<|.mv rfl<|.gz c57<|.mv rfl<|.gz c57<|.ec rfl bA<|.gz c57<|.cm rfl rfl rfl<|.gy c56<|.aT rfl c57 rfl<|.aX rfl c56 rfl<|.mv rfl<|.gz c58<|.mv rfl<|.gz c58<|.mv rfl<|.gy c59<|.mv rfl<|.gy c59<|.cm rfl rfl rfl<|.gy c59<|.mv rfl<|.gk c60<|.gk c60<|.gk c60<|.gk c60<|.gy c59<|.aX rfl c60 rfl<|.gz c58<|.aX rfl c59 rfl<|.aT rfl c58 rfl<|.nil) rfl ?_;refine .cl rfl rfl ?_;refine .al (.aq rfl<|.nil) rfl ?_;cases h;have h:=ho1;cases h;refine .aO (fun _ _ hb=>hb) rfl (.t1 (.tmp rfl)) (.refl _) trivial trivial
           ·replace h:=aa c60 h;obtain⟨v61,e62,h⟩:=bind_some h;refine .al (.mv rfl<|.not rfl<|.mv rfl<|.gy c56<|.mv rfl<|.gy c56<|.cm rfl rfl rfl<|.gy c56<|.mv rfl<|.gz c57<|.mv rfl<|.gz c57<|.ec rfl bA<|.gz c57<|.cm rfl rfl rfl<|.gy c56<|.aT rfl c57 rfl<|.aX rfl c56 rfl<|.mv rfl<|.gz c58<|.mv rfl<|.gz c58<|.mv rfl<|.gy c59<|.mv rfl<|.gy c59<|.cm rfl rfl rfl<|.gy c59<|.mv rfl<|.gz c60<|.mv rfl<|.gz c60<|.mv rfl<|.gz c60<|.ag (qZ e62) ⟨rfl,rfl,trivial⟩ trivial trivial<|.gz c60<|.not rfl<|.gy c59<|.aT rfl c60 rfl<|.gz c58<|.aX rfl c59 rfl<|.aT rfl c58 rfl<|.nil) rfl ?_;by_cases c63:(!v61)=true
            ·replace h:=ab c63 h;refine .cl rfl c63 ?_;refine .al (.aq rfl<|.nil) rfl ?_;cases h;have h:=ho1;cases h;refine .aO (fun _ _ hb=>hb) rfl (.t1 (.tmp rfl)) (.refl _) trivial trivial
            ·replace h:=aa c63 h;refine .cq rfl c63 ?_;refine .skip (fun _ _ hs=>⟨(),(sj h),hs.sub (.of rfl) trivial rfl rfl⟩)
          ·replace h:=aa c59 h;refine .al (.mv rfl<|.not rfl<|.mv rfl<|.gy c56<|.mv rfl<|.gy c56<|.cm rfl rfl rfl<|.gy c56<|.mv rfl<|.gz c57<|.mv rfl<|.gz c57<|.ec rfl bA<|.gz c57<|.cm rfl rfl rfl<|.gy c56<|.aT rfl c57 rfl<|.aX rfl c56 rfl<|.mv rfl<|.gz c58<|.mv rfl<|.gz c58<|.mv rfl<|.gm c59<|.gm c59<|.gm c59<|.gu<|.gu<|.gu<|.gu<|.gm c59<|.gz c58<|.aT rfl c59 rfl<|.aT rfl c58 rfl<|.nil) rfl ?_;refine .cq rfl (by decide) ?_;refine .skip (fun _ _ hs=>⟨(),(sj h),hs.sub (.of rfl) trivial rfl rfl⟩)
       ·replace h:=aa c56 h;by_cases c64:v52=true
        ·replace h:=ab c64 h;by_cases c65:(v17 !=0)=true
         ·replace h:=ab c65 h;refine .al (.mv rfl<|.not rfl<|.mv rfl<|.gm c56<|.gm c56<|.gm c56<|.gu<|.gu<|.gu<|.gm c56<|.aT rfl c56 rfl<|.mv rfl<|.vc<|.mv rfl<|.vc<|.mv rfl<|.gy c64<|.mv rfl<|.gy c64<|.cm rfl rfl rfl<|.gy c64<|.mv rfl<|.gk c65<|.gk c65<|.gk c65<|.gk c65<|.gy c64<|.aX rfl c65 rfl<|.vc<|.aX rfl c64 rfl<|.aT rfl (by decide) rfl<|.nil) rfl ?_;refine .cl rfl rfl ?_;refine .al (.aq rfl<|.nil) rfl ?_;cases h;have h:=ho1;cases h;refine .aO (fun _ _ hb=>hb) rfl (.t1 (.tmp rfl)) (.refl _) trivial trivial
         ·replace h:=aa c65 h;obtain⟨v66,e67,h⟩:=bind_some h;refine .al (.mv rfl<|.not rfl<|.mv rfl<|.gm c56<|.gm c56<|.gm c56<|.gu<|.gu<|.gu<|.gm c56<|.aT rfl c56 rfl<|.mv rfl<|.vc<|.mv rfl<|.vc<|.mv rfl<|.gy c64<|.mv rfl<|.gy c64<|.cm rfl rfl rfl<|.gy c64<|.mv rfl<|.gz c65<|.mv rfl<|.gz c65<|.mv rfl<|.gz c65<|.ag (qZ e67) ⟨rfl,rfl,trivial⟩ trivial trivial<|.gz c65<|.not rfl<|.gy c64<|.aT rfl c65 rfl<|.vc<|.aX rfl c64 rfl<|.aT rfl (by decide) rfl<|.nil) rfl ?_;by_cases c68:(!v66)=true
          ·replace h:=ab c68 h;refine .cl rfl c68 ?_;refine .al (.aq rfl<|.nil) rfl ?_;cases h;have h:=ho1;cases h;refine .aO (fun _ _ hb=>hb) rfl (.t1 (.tmp rfl)) (.refl _) trivial trivial
          ·replace h:=aa c68 h;refine .cq rfl c68 ?_;refine .skip (fun _ _ hs=>⟨(),(sj h),hs.sub (.of rfl) trivial rfl rfl⟩)
        ·replace h:=aa c64 h;refine .al (.mv rfl<|.not rfl<|.mv rfl<|.gm c56<|.gm c56<|.gm c56<|.gu<|.gu<|.gu<|.gm c56<|.aT rfl c56 rfl<|.mv rfl<|.vc<|.mv rfl<|.vc<|.mv rfl<|.gm c64<|.gm c64<|.gm c64<|.gu<|.gu<|.gu<|.gu<|.gm c64<|.vc<|.aT rfl c64 rfl<|.aT rfl (by decide) rfl<|.nil) rfl ?_;refine .cq rfl (by decide) ?_;refine .skip (fun _ _ hs=>⟨(),(sj h),hs.sub (.of rfl) trivial rfl rfl⟩)
      ·rintro⟨⟩ rfl
       try dsimp only
       refine .sq ?_;obtain⟨v69,e70,h⟩:=bind_some h;refine .al (.mv rfl<|.ag (vh e70) ⟨rfl,trivial⟩ trivial trivial<|.not rfl<|.nil) rfl ?_;by_cases c71:(!v69)=true
       ·replace h:=ab c71 h;refine .cl rfl c71 ?_;by_cases c72:(v21==2)=true
        ·replace h:=ab c72 h;by_cases c73:(!v19)=true
         ·replace h:=ab c73 h;by_cases c74:((v20.length:Int)==0)=true
          ·replace h:=ab c74 h;obtain⟨v75,e76,h⟩:=bind_some h;refine .al (.mv rfl<|.cm rfl rfl rfl<|.mv rfl<|.gy c72<|.mv rfl<|.gy c72<|.not rfl<|.aX rfl c72 rfl<|.mv rfl<|.gy c73<|.mv rfl<|.gy c73<|.ec rfl bP<|.gy c73<|.cm rfl rfl rfl<|.aX rfl c73 rfl<|.mv rfl<|.gy c74<|.ag (jT e76) trivial trivial trivial<|.aX rfl c74 rfl<|.aq rfl<|.nil) rfl ?_;cases h;refine .aO (fun _ _ hb=>hb) rfl (.t1 (.tmp rfl)) (.refl _) trivial trivial
          ·replace h:=aa c74 h;refine .al (.mv rfl<|.cm rfl rfl rfl<|.mv rfl<|.gy c72<|.mv rfl<|.gy c72<|.not rfl<|.aX rfl c72 rfl<|.mv rfl<|.gy c73<|.mv rfl<|.gy c73<|.ec rfl bP<|.gy c73<|.cm rfl rfl rfl<|.aX rfl c73 rfl<|.mv rfl<|.gm c74<|.aT rfl c74 rfl<|.aq rfl<|.nil) rfl ?_;cases h;refine .aO (fun _ _ hb=>hb) rfl (.t1 (.tmp rfl)) (.refl _) trivial trivial
         ·replace h:=aa c73 h;refine .al (.mv rfl<|.cm rfl rfl rfl<|.mv rfl<|.gy c72<|.mv rfl<|.gy c72<|.not rfl<|.aX rfl c72 rfl<|.mv rfl<|.gm c73<|.gm c73<|.gm c73<|.aT rfl c73 rfl<|.mv rfl<|.bH<|.aT rfl (by decide) rfl<|.aq rfl<|.nil) rfl ?_;cases h;refine .aO (fun _ _ hb=>hb) rfl (.t1 (.tmp rfl)) (.refl _) trivial trivial
        ·replace h:=aa c72 h;refine .al (.mv rfl<|.cm rfl rfl rfl<|.mv rfl<|.gm c72<|.gm c72<|.aT rfl c72 rfl<|.mv rfl<|.bH<|.bH<|.bH<|.aT rfl (by decide) rfl<|.mv rfl<|.bH<|.aT rfl (by decide) rfl<|.aq rfl<|.nil) rfl ?_;cases h;refine .aO (fun _ _ hb=>hb) rfl (.t1 (.tmp rfl)) (.refl _) trivial trivial
       ·replace h:=aa c71 h;refine .cq rfl c71 ?_;refine .skip (Ok.on ?_);refine .sq ?_;by_cases c77:(v21 !=0)=true
        ·replace h:=ab c77 h;refine .al (.mv rfl<|.cm rfl rfl rfl<|.mv rfl<|.gk c77<|.gk c77<|.gk c77<|.gk c77<|.aX rfl c77 rfl<|.nil) rfl ?_;refine .cl rfl rfl ?_;refine .al (.aq rfl<|.nil) rfl ?_;cases h;refine .aO (fun _ _ hb=>hb) rfl (.t1 (.tmp rfl)) (.refl _) trivial trivial
        ·replace h:=aa c77 h;obtain⟨v78,e79,h⟩:=bind_some h;refine .al (.mv rfl<|.cm rfl rfl rfl<|.mv rfl<|.gz c77<|.mv rfl<|.gz c77<|.mv rfl<|.gz c77<|.ag (rD e79) ⟨rfl,trivial⟩ trivial trivial<|.gz c77<|.bc i5 rfl rfl rfl<|.aT rfl c77 rfl<|.nil) rfl ?_;by_cases c80:(!(v19==v78))=true
         ·replace h:=ab c80 h;refine .cl rfl c80 ?_;refine .al (.aq rfl<|.nil) rfl ?_;cases h;refine .aO (fun _ _ hb=>hb) rfl (.t1 (.tmp rfl)) (.refl _) trivial trivial
         ·replace h:=aa c80 h;refine .cq rfl c80 ?_;refine .skip (Ok.on ?_);by_cases c81:v19=true
          ·replace h:=ab c81 h;by_cases c82:((v20.length:Int)==0)=true
           ·replace h:=ab c82 h;obtain⟨v83,e84,h⟩:=bind_some h;refine .al (.mv rfl<|.mv rfl<|.gy c81<|.mv rfl<|.gy c81<|.ec rfl bP<|.gy c81<|.cm rfl rfl rfl<|.aX rfl c81 rfl<|.mv rfl<|.gk c82<|.gk c82<|.gk c82<|.gu<|.gu<|.gu<|.gk c82<|.aX rfl c82 rfl<|.mv rfl<|.gy rfl<|.ag (jT e84) trivial trivial trivial<|.aX rfl rfl rfl<|.aq rfl<|.nil) rfl ?_;cases h;refine .aO (fun _ _ hb=>hb) rfl (.t1 (.tmp rfl)) (.refl _) trivial trivial
           ·replace h:=aa c82 h;by_cases c85:(!v19)=true
            ·replace h:=ab c85 h;obtain⟨v86,e87,h⟩:=bind_some h;by_cases c88:v86=true
             ·replace h:=ab c88 h;obtain⟨v89,e90,h⟩:=bind_some h;refine .al (.mv rfl<|.mv rfl<|.gy c81<|.mv rfl<|.gy c81<|.ec rfl bP<|.gy c81<|.cm rfl rfl rfl<|.aX rfl c81 rfl<|.mv rfl<|.gz c82<|.mv rfl<|.gz c82<|.not rfl<|.gz c82<|.mv rfl<|.gy c85<|.mv rfl<|.gy c85<|.mv rfl<|.gy c85<|.ag (kQ e87) ⟨rfl,rfl,trivial⟩ trivial trivial<|.gz c82<|.aX rfl c85 rfl<|.aT rfl c82 rfl<|.mv rfl<|.gy c88<|.ag (jT e90) trivial trivial trivial<|.aX rfl c88 rfl<|.aq rfl<|.nil) rfl ?_;cases h;refine .aO (fun _ _ hb=>hb) rfl (.t1 (.tmp rfl)) (.refl _) trivial trivial
             ·replace h:=aa c88 h;refine .al (.mv rfl<|.mv rfl<|.gy c81<|.mv rfl<|.gy c81<|.ec rfl bP<|.gy c81<|.cm rfl rfl rfl<|.aX rfl c81 rfl<|.mv rfl<|.gz c82<|.mv rfl<|.gz c82<|.not rfl<|.gz c82<|.mv rfl<|.gy c85<|.mv rfl<|.gy c85<|.mv rfl<|.gy c85<|.ag (kQ e87) ⟨rfl,rfl,trivial⟩ trivial trivial<|.gz c82<|.aX rfl c85 rfl<|.aT rfl c82 rfl<|.mv rfl<|.gm c88<|.aT rfl c88 rfl<|.aq rfl<|.nil) rfl ?_;cases h;refine .aO (fun _ _ hb=>hb) rfl (.t1 (.tmp rfl)) (.refl _) trivial trivial
            ·replace h:=aa c85 h;refine .al (.mv rfl<|.mv rfl<|.gy c81<|.mv rfl<|.gy c81<|.ec rfl bP<|.gy c81<|.cm rfl rfl rfl<|.aX rfl c81 rfl<|.mv rfl<|.gz c82<|.mv rfl<|.gz c82<|.not rfl<|.gz c82<|.mv rfl<|.gm c85<|.gm c85<|.gm c85<|.gz c82<|.aT rfl c85 rfl<|.aT rfl c82 rfl<|.mv rfl<|.bH<|.aT rfl (by decide) rfl<|.aq rfl<|.nil) rfl ?_;cases h;refine .aO (fun _ _ hb=>hb) rfl (.t1 (.tmp rfl)) (.refl _) trivial trivial
          ·replace h:=aa c81 h;by_cases c91:(!v19)=true
           ·replace h:=ab c91 h;obtain⟨v92,e93,h⟩:=bind_some h;by_cases c94:v92=true
            ·replace h:=ab c94 h;obtain⟨v95,e96,h⟩:=bind_some h;refine .al (.mv rfl<|.mv rfl<|.gm c81<|.gm c81<|.gm c81<|.aT rfl c81 rfl<|.mv rfl<|.vc<|.mv rfl<|.vc<|.not rfl<|.vc<|.mv rfl<|.gy c91<|.mv rfl<|.gy c91<|.mv rfl<|.gy c91<|.ag (kQ e93) ⟨rfl,rfl,trivial⟩ trivial trivial<|.vc<|.aX rfl c91 rfl<|.aT rfl (by decide) rfl<|.mv rfl<|.gy c94<|.ag (jT e96) trivial trivial trivial<|.aX rfl c94 rfl<|.aq rfl<|.nil) rfl ?_;cases h;refine .aO (fun _ _ hb=>hb) rfl (.t1 (.tmp rfl)) (.refl _) trivial trivial
            ·replace h:=aa c94 h;refine .al (.mv rfl<|.mv rfl<|.gm c81<|.gm c81<|.gm c81<|.aT rfl c81 rfl<|.mv rfl<|.vc<|.mv rfl<|.vc<|.not rfl<|.vc<|.mv rfl<|.gy c91<|.mv rfl<|.gy c91<|.mv rfl<|.gy c91<|.ag (kQ e93) ⟨rfl,rfl,trivial⟩ trivial trivial<|.vc<|.aX rfl c91 rfl<|.aT rfl (by decide) rfl<|.mv rfl<|.gm c94<|.aT rfl c94 rfl<|.aq rfl<|.nil) rfl ?_;cases h;refine .aO (fun _ _ hb=>hb) rfl (.t1 (.tmp rfl)) (.refl _) trivial trivial
           ·replace h:=aa c91 h;refine .al (.mv rfl<|.mv rfl<|.gm c81<|.gm c81<|.gm c81<|.aT rfl c81 rfl<|.mv rfl<|.vc<|.mv rfl<|.vc<|.not rfl<|.vc<|.mv rfl<|.gm c91<|.gm c91<|.gm c91<|.vc<|.aT rfl c91 rfl<|.aT rfl (by decide) rfl<|.mv rfl<|.bH<|.aT rfl (by decide) rfl<|.aq rfl<|.nil) rfl ?_;cases h;refine .aO (fun _ _ hb=>hb) rfl (.t1 (.tmp rfl)) (.refl _) trivial trivial
end
end Go.Am
namespace Go.Am
variable {M:List (List Rat)} {n:Nat}
theorem sf{g:Nat->Rat}:∀{l l':List Nat},cr (l++l') g=cr l g+cr l' g
 |[],l'=>by show cr l' g=0+_;grind
 |a::l,l'=>by
  show g a+cr (l++l') g=g a+cr l g+_;rw[sf];grind
theorem rA{g h:Nat->Rat}:∀n,iO g h n=cr (List.range n) fun j=>g j*h j
 |0=>rfl
 |n+1=>by
  rw[List.range_succ,sf,←rA n];show iO g h n+g n*h n=_+(g n*h n+0)
  grind
theorem A5{i j:Nat}(h:right M=true)(hij:M.length<=i\/gE M<=j):nB M i j=0:=by
 unfold nB;by_cases hi:i<M.length
 ·rw[h_ hi,kM (by rw[oL h hi];omega)]
 ·rw[kM (l:=M) (by omega),kM (by simp)]
theorem yG(h:right M=true)(hl:M.length=n)(hc:gE M=n)(hs:Ev n (nB M)):symm (nB M):=fun i j=>by
 by_cases e:i<n/\j<n
 ·rcases Nat.lt_trichotomy i j with h1|h1|h1
  ·exact(hs j i h1 e.2).symm
  ·subst h1;rfl
  ·exact hs i j h1 e.1
 ·rw[A5 h (by omega),A5 h (by omega)]
theorem yM{w:Nat->Rat}(h:right M=true)(hl:M.length=n)(hc:gE M=n)(hn:n<=6)(hb:bd M 256)(hw:∀j,sz (w j)<=1000000)(hneg:Qf n (nB M) w w<0):gw M ((List.range n).map w)=some true:=by
 have hgd:∀j,((List.range n).map w).getD j 0=if j<n then w j else 0:=fun j=>by
  by_cases e:j<n
  ·rw[h_ (by simpa using e),if_pos e];simp
  ·rw[kM (by simpa using e),if_neg e]
 have hvb:∀j,sz (((List.range n).map w).getD j 0)<=1000000:=fun j=>by
  rw[hgd]
  split
  ·exact hw j
  ·decide+kernel
 have hA:=(Eg (M:=M) (v:=(List.range n).map w) (b:=1000000) h (by omega) (by simpa using hc) (by simp;omega) (fun r hr x hx=>Nat.le_trans (hb r hr x hx) (by decide)) hvb (by decide) (Nat.le_refl _)).1;rw[hl,hc]at hA;have hu:∀i,iO (fun j=>nB M i j) (fun j=>((List.range n).map w).getD j 0) n=cr (List.range n) fun j=>nB M i j*w j:=fun i=>by
  rw[rA];exact bD fun j hj=>by rw[hgd,if_pos (List.mem_range.1 hj)]
 have hus:∀i,sz (iO (fun j=>nB M i j) (fun j=>((List.range n).map w).getD j 0) n)<=20000000:=fun i=>by
  have h1:=sT (g:=fun j=>nB M i j) (h:=fun j=>((List.range n).map w).getD j 0) (b:=1000000) (fun j=>Nat.le_trans (zg hb (by decide) i j) (by decide)) hvb n;have h2:n*(2*1000000+2)<=6*(2*1000000+2):=Nat.mul_le_mul_right _ hn;omega
 generalize hU:(fun i=>iO (fun j=>nB M i j) (fun j=>((List.range n).map w).getD j 0) n)=u at*;have hus':∀i,sz (u i)<=20000000:=fun i=>by rw[←hU];exact hus i
 have hu':∀i,u i=cr (List.range n) fun j=>nB M i j*w j:=fun i=>by rw[←hU];exact hu i
 have hL:=fz (body:=fun(s:Int×Rat)=>eK ((List.range n).map w) ((List.range n).map u) s.1 s.2) n (fun i=>iO u w i) (iO u w n) (fun i hi=>by
  unfold eK;have h1:=hus' i;have h2:=hw i;have h3:=gW (u i) (w i);have h4:=sT (g:=u) (h:=w) (b:=20000000) hus' (fun j=>Nat.le_trans (hw j) (by decide)) i;have h5:i*(2*20000000+2)<=6*(2*20000000+2):=Nat.mul_le_mul_right _ (by omega);rw[if_pos (decide_eq_true (by simp;omega)),cy hi,Option.bind_some,cy hi,Option.bind_some,kl (show di (u i)by unfold di;omega) (show di (w i)by unfold di;omega),Option.bind_some,n5 (show di (iO u w i)by unfold di;omega) (show di (u i*w i)by unfold di;omega),Option.bind_some,cI hi (by omega)]
  rfl) (by
  unfold eK;rw[if_neg (by simp)])
 have hL':Loop (fun(s:Int×Rat)=>eK ((List.range n).map w) ((List.range n).map u) s.1 s.2) (0,0)=some (iO u w n):=hL;have hval:iO u w n=Qf n (nB M) w w:=by
  rw[rA];unfold Qf;refine bD fun i _=>?_;rw[hu' i,show(cr (List.range n) fun j=>nB M i j*w j)*w i=w i*cr (List.range n) (fun j=>nB M i j*w j)by grind,←fj];exact bD fun j _=>by grind
 unfold gw;rw[hA,Option.bind_some];simp only;rw[if_neg (by simp),if_neg (by simp),hL',Option.bind_some,Option.bind_some,cW,Option.bind_some,hval]
 congr 1
 rw[decide_eq_true_eq,tw];exact hneg
theorem B9(x:List (List (Int×Int×Int)))(hx:A_ x):j_ x=some true:=by
 unfold j_;have s1:=CT x 4 (by omega);have c5:((4:Nat):Int)=4:=rfl;rw[c5]at s1;rw[s1]
 cases h1:small x 4 with
 |false=>simp[gC]
 |true=>
 simp only[Option.bind_some,Bool.not_true,Bool.false_eq_true,if_false];obtain⟨lx,rx⟩:=uJ h1;rw[H7 x hx (by omega) (fun r hr=>by have:=rx r hr;omega)];simp only[Option.bind_some];have bx:=CX hx;have nx:(x.map eh).length<=4:=by simpa using lx
 generalize x.map eh=M at*;rw[yw M (by omega)];by_cases hsq:right M=true/\gE M=M.length
 ·obtain⟨hM,hc⟩:=hsq;have hg:M=az M.length M.length (nB M):=by
   conv=>lhs;rw[FP hM]
   rw[hc]
  have hf:kE (nB M) 300:=fun i j=>Nat.le_trans (zg bx (by decide) i j) (by decide);obtain⟨d1,d2,d3⟩:=Es (n:=M.length) (nB M) (by omega) hf;obtain⟨g,pv,hR,hpl,_,_,hI⟩:=H8 (n:=M.length) (nB M) (by omega) hf;have hS:=FL (n:=M.length) (nB M) (by omega) hf;rw[←hg]at d1 d2 hI hS;have hB:300*8^M.length<=1228800:=by
   have:=zc (show M.length<=4 from nx);have e:300*8^4=1228800:=by decide
   omega
  have sD:=wm (show di (iF M.length (nB M))by unfold di;omega);rw[hM,if_pos rfl,d1];simp only[Option.bind_some]
  -- the inverse
  have aG:gG (az M.length M.length fun i j=>g i (M.length+j)) (az M.length M.length fun i j=>g i (M.length+j))=some true:=x8 _ (by rw[aP];omega) (fun r hr=>by rw[mR hr];omega) (FG (fun i j=>Nat.le_trans (hR.sz i _) (by omega)));have aN:∀w:Nat->Rat,(∀j,sz (w j)<=5*(300*8^(M.length-1))+5)->Qf M.length (nB M) w w<0->gw M ((List.range M.length).map w)=some true:=fun w hw hq=>yM hM rfl hc (by omega) bx (fun j=>Nat.le_trans (hw j) (by
   have:=zc (show M.length-1<=3 by omega);have e:300*8^3=153600:=by decide
   omega)) hq
  have hne:∀w:Nat->Rat,Qf M.length (nB M) w w<0->((List.range M.length).map w).length≠0:=fun w hq e=>by
   rw[List.length_map,List.length_range]at e;rw[e]at hq;exact absurd hq (by show¬((0:Rat)<0);decide)
  rcases hI with⟨i1,i2,_⟩|⟨i1,i2,_⟩
  ·rw[i1];simp only[Option.bind_some];rcases hS with⟨_,s1,s2⟩|⟨hsy,s2,hs⟩
   ·rw[s1];simp only[Option.bind_some,Bool.not_true,Bool.false_eq_true,if_false];rw[if_neg (by simp[hc]),if_neg (by decide),d2];simp only[Option.bind_some];rw[sD];simp only[Option.bind_some,Bool.not_true,Bool.false_eq_true,if_false];rw[i2];simp only[Option.bind_some,Bool.not_true,Bool.false_eq_true,if_false,if_true];rw[if_neg (by decide),aG];simp only[Option.bind_some,Bool.not_true,Bool.false_eq_true,if_false];rw[s2];simp[gC]
   ·have hsm:=yG hM rfl hc hsy;have hrs:=yP (n:=M.length) hsm (by omega) hf;rw[←hg]at hrs;rcases hs with⟨s1,hp⟩|⟨w,s1,hq,hw⟩
    ·have hrt:cK M=some true:=by
      rcases hrs with h|h
      ·exact h.1
      ·exact absurd (hp hsm) h.2
     rw[s1];simp only[Option.bind_some,Bool.not_true,Bool.false_eq_true,if_false];rw[if_neg (by simp[hc]),if_neg (by decide),d2];simp only[Option.bind_some];rw[sD];simp only[Option.bind_some,Bool.not_true,Bool.false_eq_true,if_false];rw[i2];simp only[Option.bind_some,Bool.not_true,Bool.false_eq_true,if_false,if_true];rw[if_neg (by decide),aG];simp only[Option.bind_some,Bool.not_true,Bool.false_eq_true,if_false];rw[s2];simp only[Option.bind_some,Bool.not_true,Bool.false_eq_true,if_false];rw[hrt];simp[gC]
    ·have hqw:=hq hsm;have hrf:cK M=some false:=by
      rcases hrs with h|h
      ·have:=h.2 w;rw[←G3]at this
       grind
      ·exact h.1
     rw[s1];simp only[Option.bind_some,Bool.not_true,Bool.false_eq_true,if_false];rw[if_neg (by simp[hc]),if_neg (by decide),d2];simp only[Option.bind_some];rw[sD];simp only[Option.bind_some,Bool.not_true,Bool.false_eq_true,if_false];rw[i2];simp only[Option.bind_some,Bool.not_true,Bool.false_eq_true,if_false,if_true];rw[if_neg (by decide),aG];simp only[Option.bind_some,Bool.not_true,Bool.false_eq_true,if_false];rw[s2];simp only[Option.bind_some,Bool.not_true,Bool.false_eq_true,if_false];rw[hrf];simp[aN w hw hqw,gC]
  ·rw[i1];simp only[Option.bind_some];rcases hS with⟨_,s1,s2⟩|⟨hsy,s2,hs⟩
   ·rw[s1];simp only[Option.bind_some,Bool.not_true,Bool.false_eq_true,if_false];rw[if_neg (by simp[hc]),if_neg (by decide),d2];simp only[Option.bind_some];rw[sD];simp only[Option.bind_some,Bool.not_true,Bool.false_eq_true,if_false];rw[i2];simp[s2,gC]
   ·have hsm:=yG hM rfl hc hsy;have hrs:=yP (n:=M.length) hsm (by omega) hf;rw[←hg]at hrs;rcases hs with⟨s1,hp⟩|⟨w,s1,hq,hw⟩
    ·have hrt:cK M=some true:=by
      rcases hrs with h|h
      ·exact h.1
      ·exact absurd (hp hsm) h.2
     rw[s1];simp only[Option.bind_some,Bool.not_true,Bool.false_eq_true,if_false];rw[if_neg (by simp[hc]),if_neg (by decide),d2];simp only[Option.bind_some];rw[sD];simp only[Option.bind_some,Bool.not_true,Bool.false_eq_true,if_false];rw[i2];simp[s2,hrt,gC]
    ·have hqw:=hq hsm;have hrf:cK M=some false:=by
      rcases hrs with h|h
      ·have:=h.2 w;rw[←G3]at this
       grind
      ·exact h.1
     rw[s1];simp only[Option.bind_some,Bool.not_true,Bool.false_eq_true,if_false];rw[if_neg (by simp[hc]),if_neg (by decide),d2];simp only[Option.bind_some];rw[sD];simp only[Option.bind_some,Bool.not_true,Bool.false_eq_true,if_false];rw[i2];simp[s2,hrf,aN w hw hqw,gC]
 ·have hbad:right M=false\/(right M=true/\gE M≠M.length):=by
   cases hq:right M with
   |false=>exact .inl rfl
   |true=>exact .inr ⟨rfl,fun e=>hsq ⟨hq,e⟩⟩
  have hsq':∀{β:Type} (a b:Option β),(if(!right M)=true then a else if((M.length:Int) !=(gE M:Int))=true then a else b)=a:=fun a b=>by
   rcases hbad with h|⟨h,hne⟩
   ·rw[h];rfl
   ·rw[h];simp only[Bool.not_true,Bool.false_eq_true,if_false];rw[if_pos (by rw[bne_iff_ne];omega)]
  have e1:tY M=some (0,2):=by
   unfold tY;rw[kO M (by omega),Option.bind_some];exact hsq' _ _
  have e2:iH M=some ([],2):=by
   unfold iH;rw[kO M (by omega),Option.bind_some];exact hsq' _ _
  have e3:dm M=some (false,[],2):=by
   unfold dm;rw[kO M (by omega),Option.bind_some];exact hsq' _ _
  have hz:wJ 0=0:=rfl;rw[e1,e2,e3];rcases hbad with h|⟨h,hne⟩
  ·rw[h];simp[cW,hz,gC]
   rfl
  ·rw[h];simp only[if_true,Option.bind_some,Bool.not_true,Bool.false_eq_true,if_false];rw[if_pos (by rw[bne_iff_ne];omega)];simp[cW,hz,gC]
   rfl
end Go.Am
