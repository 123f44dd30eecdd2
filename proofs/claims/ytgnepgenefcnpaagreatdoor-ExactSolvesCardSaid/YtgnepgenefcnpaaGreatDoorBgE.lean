/- Part 5 of 7 of what the laws of layer 1 share: contracts of functions of the program, each for every argument of its description; no condition beyond it. -/
import Derived.Test.YtgnepgenefcnpaaGreatDoorBgD
set_option linter.unusedVariables false
set_option linter.unusedSimpArgs false
namespace Go.Am
open Go.RowKit
set_option maxRecDepth 100000
noncomputable section
def dH(v2:List (List Rat))(v6:Int)(v7:List (List Rat))(v8:List (List Rat)):Option (St (Int×(List (List Rat))×(List (List Rat))) ((List (List Rat))×(List (List Rat)))):=(if(decide (v6<((([]:List (List Rat)).length+v2.length):Int)))=true then bZ ((v6:Int)=(v8.length:Int)) ((ix v7 0).bind fun v15=>(kn v15).bind fun v17=>some (St.next ((IntKind.i64.wrap (v6+1)),v7.tail,(v8++[v17]))))else some (St.done (v7,v8)))
def ir(a1:List (List Rat)):Option (List (List Rat)):=(kn a1).bind fun v2=>((Loop (fun(s:Int×(List (List Rat))×(List (List Rat)))=>dH v2 s.1 s.2.1 s.2.2) (0,v2,([]:List (List Rat)))).bind fun(v19,v20)=>some ((v19,v20))).bind fun(v21,v22)=>bZ (v21=[]) (some v22)
theorem tE{a1:List (List Rat)}{r24:List (List Rat)}(h:ir a1=some r24):aS PP 202 [] [ag (ak.slice ak.rat) a1] [(6,Hp.cl ak.rat 68 4000006 ([])),(4000006,Hp.store ak.rat 28 r24)] (D.own 6):=by
 unfold ir at h
 refine .of Go.Proofs.Tryz.func202 rfl (by kernel_rfl) rfl rfl rfl rfl rfl rfl (fun A w0 L b=>?_)
 show Ok PP _ [(0,ag (ak.slice ak.rat) a1)] [] _ _
 refine .al (.aq rfl<|.nil) rfl ?_
 obtain⟨v2,e3,h⟩:=bind_some h
 refine .al (.mv rfl<|.yx (hl:=dM _ _) (B5 e3) ⟨rfl,trivial⟩ rfl<|.aq rfl<|.nil) rfl ?_
 obtain⟨o4,hp5,h⟩:=bind_some h
 refine .cd (fun i=>o4=i) (fun(i:(List (List Rat))×(List (List Rat)))=>[(3,D.own 6)]) (fun(i:(List (List Rat))×(List (List Rat)))=>[(6,Hp.cl ak.rat 68 4000006 i.1),(4000006,Hp.store ak.rat 28 i.2)]) ?_ ?_
 ·have ho1:=h
  clear h
  have h:=hp5
  clear hp5
  refine .Hg 6 4000006 28 rfl rfl ?_
  refine .Fe 3 rfl rfl rfl ?_
  refine .al (.mv rfl<|.zS rfl bN<|.mv rfl<|.nil) rfl ?_
  obtain⟨o9,hl10,h⟩:=bind_some h
  have ho2:=h
  clear h
  refine .block (.b8 (fun(s:Int×(List (List Rat))×(List (List Rat)))=>[(3,D.own 6),(8,D.int .i64 ((([]:List (List Rat)).length+v2.length):Int)),(9,D.int .i64 s.1)]) (fun(s:Int×(List (List Rat))×(List (List Rat)))=>[(6,Hp.cl ak.rat 68 4000006 s.2.1),(4000006,Hp.store ak.rat 28 s.2.2)]) hl10 ⟨⟨_,rfl,.sl⟩,⟨_,rfl,.refl _⟩,⟨_,rfl,.refl _⟩,trivial⟩ (.of rfl) rfl rfl ?_)
  rintro⟨v6,v7,v8⟩ st11 hb12
  have h:dH v2 v6 v7 v8=some st11:=hb12
  clear hb12
  unfold dH at h
  try dsimp only
  refine .al (.cm rfl rfl rfl<|.nil) rfl ?_
  refine .sq ?_
  by_cases c13:(decide (v6<((([]:List (List Rat)).length+v2.length):Int)))=true
  ·replace h:=aa c13 h
   refine .cj rfl c13 ?_
   refine .skip (Ok.on ?_)
   refine .sq ?_
   refine .block ?_
   refine .al (.mv rfl<|.aq rfl<|.nil) rfl ?_
   refine .Fe 3 rfl rfl rfl ?_
   obtain⟨k14,h⟩:=aw h
   obtain⟨v15,e16,h⟩:=bind_some h
   obtain⟨v17,e18,h⟩:=bind_some h
   refine .region (.mv rfl<|.mv rfl<|.mv rfl<|.mv rfl<|.oH rfl rfl bL (by omega) (by have:=aW e16;omega)<|.Gl k14 (af e16).2 rfl rfl rfl rfl bT<|.yx (hl:=dM _ _) (vy e18) ⟨rfl,trivial⟩ rfl<|.oH rfl rfl bL (by omega) (by have:=aW e16;omega)<|.Gb (s2:=3000006) k14 (af e16).2 rfl rfl rfl rfl rfl rfl ⟨by decide,by decide,by decide⟩ rfl bT<|.nil) rfl (Ok.on ?_)
   refine .region (.ar rfl rfl rfl<|.mv rfl<|.nil) rfl (fun _ _ hs=>⟨((IntKind.i64.wrap (v6+1)),v7.tail,(v8++[v17])),(Option.some.inj h).symm,hs.nE (fun r=>match r with|4000006=>3000006|r=>r) ⟨⟨_,rfl,.FV (r:=6)⟩,⟨_,rfl,.refl rfl⟩,⟨_,rfl,.refl rfl⟩,trivial⟩ ⟨⟨_,rfl,.cl (s:=4000006)⟩,⟨_,rfl,.refl rfl⟩,trivial⟩ rfl rfl rfl⟩)
  ·replace h:=ab c13 h
   refine .ck rfl c13 ?_
   refine .exit (fun a w hs=>⟨_,(Option.some.inj h).symm,fun e=>by subst e;have h:=ho2;exact aZ (⟨(v7,v8),(Option.some.inj h).symm,hs.sub (.of rfl) (.of rfl) rfl rfl⟩)⟩)
 ·rintro⟨v21,v22⟩ rfl
  try dsimp only
  refine .Fe 3 rfl rfl rfl ?_
  refine .al (.mv rfl<|.aq rfl<|.nil) rfl ?_
  refine .rJ 2 (.own 6) rfl .sl ?_
  obtain⟨k23,h⟩:=aw h
  subst k23
  cases h
  refine .aH (fun _ _ hb=>hb) rfl (.cons (.tmp rfl) .nil) (.refl _) trivial (.of rfl)
def dg(a1:Int)(a4:Int)(v11:Rat)(v15:Int)(v16:List (List Rat)):Option (St (Int×(List (List Rat))) (List (List Rat))):=(if(decide (v15<a4))=true then(ix v16 a1).bind fun v22=>(ix v16 a1).bind fun v24=>(ix v24 v15).bind fun v26=>(iR v26 v11).bind fun v28=>(ix v22 v15).bind fun v30=>some (St.next ((IntKind.i64.wrap (v15+1)),(v16.set a1.toNat (v22.set v15.toNat v28))))else some (St.done v16))
def cL(a1:Int)(a4:Int)(v34:Int)(v45:Rat)(v51:Int)(v52:List (List Rat)):Option (St (Int×(List (List Rat))) (List (List Rat))):=(if(decide (v51<a4))=true then(ix v52 v34).bind fun v58=>(ix v52 v34).bind fun v60=>(ix v60 v51).bind fun v62=>(ix v52 a1).bind fun v64=>(ix v64 v51).bind fun v66=>(iR v45 v66).bind fun v68=>(ky v62 v68).bind fun v70=>(ix v58 v51).bind fun v72=>some (St.next ((IntKind.i64.wrap (v51+1)),(v52.set v34.toNat (v58.set v51.toNat v70))))else some (St.done v52))
def cJ(a1:Int)(a2:Int)(a4:Int)(v33:List (List Rat))(v34:Int)(v35:List (List Rat)):Option (St (Int×(List (List Rat))) (List (List Rat))):=(if(decide (v34<(v33.length:Int)))=true then((ix v35 v34).bind fun v43=>(ix v43 a2).bind fun v45=>(if(v34 !=a1)=true then(i_ v45).bind fun v48=>(if(v48 !=0)=true then(Loop (fun(s:Int×(List (List Rat)))=>cL a1 a4 v34 v45 s.1 s.2) (a2,v35)).bind fun v74=>some (v74)else some (v35))else some (v35))).bind fun v75=>some (St.next ((IntKind.i64.wrap (v34+1)),v75))else some (St.done v35))
def gb(a1:Int)(a2:Int)(a3:List (List Rat))(a4:Int):Option (List (List Rat)):=(gz 1).bind fun v5=>(ix a3 a1).bind fun v7=>(ix v7 a2).bind fun v9=>(gS v5 v9).bind fun v11=>((Loop (fun(s:Int×(List (List Rat)))=>dg a1 a4 v11 s.1 s.2) (a2,a3)).bind fun v32=>some (v32)).bind fun v33=>(Loop (fun(s:Int×(List (List Rat)))=>cJ a1 a2 a4 v33 s.1 s.2) (0,v33)).bind fun v76=>some v76
theorem q5{a1:Int}{a2:Int}{a3:List (List Rat)}{a4:Int}{r77:List (List Rat)}(h:gb a1 a2 a3 a4=some r77):aS PP 236 [(2,Hp.box 132 ([D.own 202])),(3,Hp.box 3 ([D.int .i64 a4])),(202,Hp.cl ak.rat 68 402 ([])),(402,Hp.store ak.rat 28 a3)] [D.int .i64 a1,D.int .i64 a2,D.ref 2 0,D.ref 3 0] [(2,Hp.box 132 ([D.own 202])),(3,Hp.box 3 ([D.int .i64 a4])),(202,Hp.cl ak.rat 68 402 ([])),(402,Hp.store ak.rat 28 r77)] (D.iC []):=by
 unfold gb at h
 refine .of Go.Proofs.Tryz.func236 rfl (by kernel_rfl) rfl rfl rfl rfl rfl rfl (fun A w0 L b=>?_)
 show Ok PP _ [(0,D.int .i64 a1),(1,D.int .i64 a2),(2,D.ref 2 0),(3,D.ref 3 0),(1000002,D.pinned 2 (b 2)),(1000003,D.pinned 3 (b 3)),(1000202,D.pinned 202 (b 202)),(1000402,D.pinned 402 (b 402))] [(2,Hp.box 132 ([D.own 202])),(3,Hp.box 3 ([D.int .i64 a4])),(202,Hp.cl ak.rat 68 402 ([])),(402,Hp.store ak.rat 28 a3)] _ _
 obtain⟨v5,e6,h⟩:=bind_some h
 obtain⟨v7,e8,h⟩:=bind_some h
 obtain⟨v9,e10,h⟩:=bind_some h
 obtain⟨v11,e12,h⟩:=bind_some h
 refine .dc cg (.ah (kX e6) ⟨rfl,trivial⟩ trivial trivial<|.bg (D.own 202) rfl rfl b7 rfl<|.mv rfl<|.sk rfl rfl rfl rfl bL (af e8).1 (by have:=aW e8;have:=(af e8).1;(try simp only[List.length_set]at*);omega)<|.sv (aW e8) rfl rfl rfl rfl bT<|.mv rfl<|.uM rfl rfl rfl (af e8).2 cz (af e10).1 (by have:=aW e10;have:=(af e10).1;omega) rfl<|.oY rfl rfl (af e8).2 (af e10).2 ae rfl rfl<|.ah (nH e12) ⟨rfl,rfl,trivial⟩ trivial trivial<|.gd (qC (0)) aJ ⟨nr,nT,nS,trivial⟩ rfl<|.cH (qC (v11)) rfl rfl rfl ae rfl rfl rfl<|.nil) rfl (by kernel_rfl) ?_
 obtain⟨v33,hp14,h⟩:=bind_some h
 refine .cd (fun i=>v33=i) (fun(i:(List (List Rat)))=>[(0,D.int .i64 a1),(1,D.int .i64 a2),(2,D.ref 2 0),(3,D.ref 3 0),(1000002,D.pinned 2 (b 2)),(1000003,D.pinned 3 (b 3)),(1000202,D.pinned 202 (b 202)),(1000402,D.pinned 402 (b 402))]) (fun(i:(List (List Rat)))=>[(2,Hp.box 132 ([D.own 202])),(202,Hp.cl ak.rat 68 402 ([])),(402,Hp.store ak.rat 28 i),(3,Hp.box 3 ([D.int .i64 a4]))]) ?_ ?_
 ·have ho1:=h
  clear h
  have h:=hp14
  clear hp14
  refine .al (.mv rfl<|.aq rfl<|.nil) rfl ?_
  obtain⟨o17,hl18,h⟩:=bind_some h
  have ho2:=h
  clear h
  refine .block (.b8 (fun(s:Int×(List (List Rat)))=>[(0,D.int .i64 a1),(1,D.int .i64 a2),(2,D.ref 2 0),(3,D.ref 3 0),(6,D.ref 6 0),(7,D.int .i64 s.1),(1000002,D.pinned 2 (b 2)),(1000003,D.pinned 3 (b 3)),(1000202,D.pinned 202 (b 202)),(1000402,D.pinned 402 (b 402))]) (fun(s:Int×(List (List Rat)))=>[(2,Hp.box 132 ([D.own 202])),(202,Hp.cl ak.rat 68 402 ([])),(402,Hp.store ak.rat 28 s.2),(3,Hp.box 3 ([D.int .i64 a4])),(6,Hp.box 28 (qC (v11)))]) hl18 (.of rfl) (.of rfl) rfl rfl ?_)
  rintro⟨v15,v16⟩ st19 hb20
  have h:dg a1 a4 v11 v15 v16=some st19:=hb20
  clear hb20
  unfold dg at h
  try dsimp only
  refine .sq ?_
  refine .al (.mv rfl<|.bg (D.int .i64 a4) rfl rfl cB rfl<|.cm rfl rfl rfl<|.nil) rfl ?_
  by_cases c21:(decide (v15<a4))=true
  ·replace h:=aa c21 h
   refine .cj rfl c21 ?_
   refine .skip (Ok.on ?_)
   refine .sq ?_
   refine .block ?_
   obtain⟨v22,e23,h⟩:=bind_some h
   obtain⟨v24,e25,h⟩:=bind_some h
   obtain⟨v26,e27,h⟩:=bind_some h
   obtain⟨v28,e29,h⟩:=bind_some h
   obtain⟨v30,e31,h⟩:=bind_some h
   refine .c_ cg (.bg (D.own 202) rfl rfl b7 rfl<|.mv rfl<|.sk rfl rfl rfl rfl bL (af e23).1 (by have:=aW e23;have:=(af e23).1;(try simp only[List.length_set]at*);omega)<|.sv (aW e23) rfl rfl rfl rfl bT<|.mv rfl<|.bg (D.own 202) rfl rfl b7 rfl<|.mv rfl<|.sk rfl rfl rfl rfl bL (af e25).1 (by have:=aW e25;have:=(af e25).1;(try simp only[List.length_set]at*);omega)<|.sv (aW e25) rfl rfl rfl rfl bT<|.mv rfl<|.uM rfl rfl rfl (af e25).2 cz (af e27).1 (by have:=aW e27;have:=(af e27).1;omega) rfl<|.oY rfl rfl (af e25).2 (af e27).2 ae rfl rfl<|.b_ (qC (v11)) rfl rfl ae rfl rfl<|.ah (oN e29) ⟨rfl,rfl,trivial⟩ trivial trivial<|.uM rfl rfl rfl (af e23).2 cz (af e31).1 (by have:=aW e31;have:=(af e31).1;omega) rfl<|.Co v28 rfl rfl rfl (af e23).2 (aW e31) ae rfl rfl rfl<|.nil) rfl (by kernel_rfl) (Ok.on ?_)
   refine .region (.mv rfl<|.ar rfl rfl rfl<|.aq rfl<|.nil) rfl (fun _ _ hs=>⟨((IntKind.i64.wrap (v15+1)),(v16.set a1.toNat (v22.set v15.toNat v28))),(Option.some.inj h).symm,hs.sub (.of rfl) (.of rfl) rfl rfl⟩)
  ·replace h:=ab c21 h
   refine .ck rfl c21 ?_
   refine .exit (fun a w hs=>⟨_,(Option.some.inj h).symm,fun e=>by subst e;have h:=ho2;exact aZ (⟨v16,(Option.some.inj h).symm,hs.sub (.of rfl) (.of rfl) rfl rfl⟩)⟩)
 ·rintro _ rfl
  try dsimp only
  refine .al (.bg (D.own 202) rfl rfl b7 rfl<|.EE rfl rfl rfl bN<|.mv rfl<|.nil) rfl ?_
  obtain⟨o36,hl37,h⟩:=bind_some h
  have ho1:=h
  clear h
  refine .block (.b8 (fun(s:Int×(List (List Rat)))=>[(0,D.int .i64 a1),(1,D.int .i64 a2),(2,D.ref 2 0),(3,D.ref 3 0),(42,D.int .i64 (v33.length:Int)),(43,D.int .i64 s.1),(1000002,D.pinned 2 (b 2)),(1000003,D.pinned 3 (b 3)),(1000202,D.pinned 202 (b 202)),(1000402,D.pinned 402 (b 402))]) (fun(s:Int×(List (List Rat)))=>[(2,Hp.box 132 ([D.own 202])),(202,Hp.cl ak.rat 68 402 ([])),(402,Hp.store ak.rat 28 s.2),(3,Hp.box 3 ([D.int .i64 a4]))]) hl37 (.of rfl) (.of rfl) rfl rfl ?_)
  rintro⟨v34,v35⟩ st38 hb39
  have h:cJ a1 a2 a4 v33 v34 v35=some st38:=hb39
  clear hb39
  unfold cJ at h
  try dsimp only
  refine .al (.cm rfl rfl rfl<|.nil) rfl ?_
  refine .sq ?_
  by_cases c40:(decide (v34<(v33.length:Int)))=true
  ·replace h:=aa c40 h
   refine .cj rfl c40 ?_
   refine .skip (Ok.on ?_)
   obtain⟨v75,hp42,h⟩:=bind_some h
   refine .cd (fun i=>v75=i) (fun(i:(List (List Rat)))=>[(0,D.int .i64 a1),(1,D.int .i64 a2),(2,D.ref 2 0),(3,D.ref 3 0),(42,D.int .i64 (v33.length:Int)),(43,D.int .i64 v34),(1000002,D.pinned 2 (b 2)),(1000003,D.pinned 3 (b 3)),(1000202,D.pinned 202 (b 202)),(1000402,D.pinned 402 (b 402))]) (fun(i:(List (List Rat)))=>[(2,Hp.box 132 ([D.own 202])),(202,Hp.cl ak.rat 68 402 ([])),(402,Hp.store ak.rat 28 i),(3,Hp.box 3 ([D.int .i64 a4]))]) ?_ ?_
   ·have ho2:=h
    clear h
    have h:=hp42
    clear hp42
    refine .block ?_
    refine .al (.mv rfl<|.aq rfl<|.nil) rfl ?_
    obtain⟨v43,e44,h⟩:=bind_some h
    obtain⟨v45,e46,h⟩:=bind_some h
    refine .al (.bg (D.own 202) rfl rfl b7 rfl<|.mv rfl<|.sk rfl rfl rfl rfl bL (af e44).1 (by have:=aW e44;have:=(af e44).1;(try simp only[List.length_set]at*);omega)<|.sv (aW e44) rfl rfl rfl rfl bT<|.mv rfl<|.uM rfl rfl rfl (af e44).2 cz (af e46).1 (by have:=aW e46;have:=(af e46).1;omega) rfl<|.oY rfl rfl (af e44).2 (af e46).2 ae rfl rfl<|.gd (qC (0)) aJ ⟨nr,nT,nS,trivial⟩ rfl<|.cH (qC (v45)) rfl rfl rfl ae rfl rfl rfl<|.nil) rfl ?_
    by_cases c47:(v34 !=a1)=true
    ·replace h:=aa c47 h
     obtain⟨v48,e49,h⟩:=bind_some h
     refine .al (.mv rfl<|.mv rfl<|.cm rfl rfl rfl<|.mv rfl<|.aV rfl rfl rfl c47<|.b_ (qC (v45)) rfl rfl ae rfl rfl<|.aV rfl rfl rfl c47<|.ah (wA e49) ⟨rfl,trivial⟩ trivial trivial<|.aV rfl rfl rfl c47<|.cm rfl rfl rfl<|.bn rfl c47 rfl<|.nil) rfl ?_
     by_cases c50:(v48 !=0)=true
     ·replace h:=aa c50 h
      refine .cj rfl c50 ?_
      refine .al (.mv rfl<|.aq rfl<|.nil) rfl ?_
      obtain⟨o53,hl54,h⟩:=bind_some h
      have ho3:=h
      clear h
      refine .block (.b8 (fun(s:Int×(List (List Rat)))=>[(0,D.int .i64 a1),(1,D.int .i64 a2),(2,D.ref 2 0),(3,D.ref 3 0),(8,D.int .i64 v34),(9,D.ref 9 0),(10,D.int .i64 s.1),(42,D.int .i64 (v33.length:Int)),(43,D.int .i64 v34),(1000002,D.pinned 2 (b 2)),(1000003,D.pinned 3 (b 3)),(1000202,D.pinned 202 (b 202)),(1000402,D.pinned 402 (b 402))]) (fun(s:Int×(List (List Rat)))=>[(2,Hp.box 132 ([D.own 202])),(202,Hp.cl ak.rat 68 402 ([])),(402,Hp.store ak.rat 28 s.2),(3,Hp.box 3 ([D.int .i64 a4])),(9,Hp.box 28 (qC (v45)))]) hl54 (.of rfl) (.of rfl) rfl rfl ?_)
      rintro⟨v51,v52⟩ st55 hb56
      have h:cL a1 a4 v34 v45 v51 v52=some st55:=hb56
      clear hb56
      unfold cL at h
      try dsimp only
      refine .sq ?_
      refine .al (.mv rfl<|.bg (D.int .i64 a4) rfl rfl cB rfl<|.cm rfl rfl rfl<|.nil) rfl ?_
      by_cases c57:(decide (v51<a4))=true
      ·replace h:=aa c57 h
       refine .cj rfl c57 ?_
       refine .skip (Ok.on ?_)
       refine .sq ?_
       refine .block ?_
       obtain⟨v58,e59,h⟩:=bind_some h
       obtain⟨v60,e61,h⟩:=bind_some h
       obtain⟨v62,e63,h⟩:=bind_some h
       obtain⟨v64,e65,h⟩:=bind_some h
       obtain⟨v66,e67,h⟩:=bind_some h
       obtain⟨v68,e69,h⟩:=bind_some h
       obtain⟨v70,e71,h⟩:=bind_some h
       obtain⟨v72,e73,h⟩:=bind_some h
       refine .c_ cg (.bg (D.own 202) rfl rfl b7 rfl<|.mv rfl<|.sk rfl rfl rfl rfl bL (af e59).1 (by have:=aW e59;have:=(af e59).1;(try simp only[List.length_set]at*);omega)<|.sv (aW e59) rfl rfl rfl rfl bT<|.mv rfl<|.bg (D.own 202) rfl rfl b7 rfl<|.mv rfl<|.sk rfl rfl rfl rfl bL (af e61).1 (by have:=aW e61;have:=(af e61).1;(try simp only[List.length_set]at*);omega)<|.sv (aW e61) rfl rfl rfl rfl bT<|.mv rfl<|.uM rfl rfl rfl (af e61).2 cz (af e63).1 (by have:=aW e63;have:=(af e63).1;omega) rfl<|.oY rfl rfl (af e61).2 (af e63).2 ae rfl rfl<|.b_ (qC (v45)) rfl rfl ae rfl rfl<|.bg (D.own 202) rfl rfl b7 rfl<|.mv rfl<|.sk rfl rfl rfl rfl bL (af e65).1 (by have:=aW e65;have:=(af e65).1;(try simp only[List.length_set]at*);omega)<|.sv (aW e65) rfl rfl rfl rfl bT<|.mv rfl<|.uM rfl rfl rfl (af e65).2 cz (af e67).1 (by have:=aW e67;have:=(af e67).1;omega) rfl<|.oY rfl rfl (af e65).2 (af e67).2 ae rfl rfl<|.ah (oN e69) ⟨rfl,rfl,trivial⟩ trivial trivial<|.ah (sN e71) ⟨rfl,rfl,trivial⟩ trivial trivial<|.uM rfl rfl rfl (af e59).2 cz (af e73).1 (by have:=aW e73;have:=(af e73).1;omega) rfl<|.Co v70 rfl rfl rfl (af e59).2 (aW e73) ae rfl rfl rfl<|.nil) rfl (by kernel_rfl) (Ok.on ?_)
       refine .region (.mv rfl<|.ar rfl rfl rfl<|.aq rfl<|.nil) rfl (fun _ _ hs=>⟨((IntKind.i64.wrap (v51+1)),(v52.set v34.toNat (v58.set v51.toNat v70))),(Option.some.inj h).symm,hs.sub (.of rfl) (.of rfl) rfl rfl⟩)
      ·replace h:=ab c57 h
       refine .ck rfl c57 ?_
       refine .exit (fun a w hs=>⟨_,(Option.some.inj h).symm,fun e=>by subst e;have h:=ho3;exact aZ (⟨v52,(Option.some.inj h).symm,hs.sub (.of rfl) (.of rfl) rfl rfl⟩)⟩)
     ·replace h:=ab c50 h
      refine .ck rfl c50 ?_
      refine .skip (fun _ _ hs=>⟨v35,(Option.some.inj h).symm,hs.sub (.of rfl) (.of rfl) rfl rfl⟩)
    ·replace h:=ab c47 h
     refine .al (.mv rfl<|.mv rfl<|.cm rfl rfl rfl<|.mv rfl<|.aT rfl rfl rfl c47<|.aT rfl rfl rfl c47<|.aT rfl rfl rfl c47<|.bm rfl c47 rfl<|.nil) rfl ?_
     refine .ck rfl (by decide) ?_
     refine .skip (fun _ _ hs=>⟨v35,(Option.some.inj h).symm,hs.sub (.of rfl) (.of rfl) rfl rfl⟩)
   ·rintro _ rfl
    try dsimp only
    refine .region (.ar rfl rfl rfl<|.mv rfl<|.nil) rfl (fun _ _ hs=>⟨((IntKind.i64.wrap (v34+1)),v75),(Option.some.inj h).symm,hs.sub (.of rfl) (.of rfl) rfl rfl⟩)
  ·replace h:=ab c40 h
   refine .ck rfl c40 ?_
   refine .exit (fun a w hs=>⟨_,(Option.some.inj h).symm,fun e=>by subst e;have h:=ho1;cases h;exact aZ (hs.FI rfl .nil (.refl _) (.of rfl) (.of rfl))⟩)
def cf(v3:Int)(v8:Int)(v9:List (List Rat))(v10:List Int)(v19:Int):Option (St Int ((List (List Rat))×(List Int))):=(if(decide (v19<(v9.length:Int)))=true then(ix v9 v19).bind fun v25=>(ix v25 v8).bind fun v27=>(i_ v27).bind fun v29=>(if(v29 !=0)=true then(ix v9 v19).bind fun v32=>(ix v9 (v10.length:Int)).bind fun v34=>(ix v9 (v10.length:Int)).bind fun v36=>(ix v9 v19).bind fun v38=>(gb (v10.length:Int) v8 ((v9.set (v10.length:Int).toNat v32).set v19.toNat v36) v3).bind fun v40=>bZ ((v10.length+([v8]).length)*8<=140737488355328/\v10.length+([v8]).length<=9223372036854775807) (some (St.done (v40,(v10++[v8]))))else some (St.next (IntKind.i64.wrap (v19+1))))else some (St.done (v9,v10)))
def bz(v3:Int)(v8:Int)(v9:List (List Rat))(v10:List Int):Option (St (Int×(List (List Rat))×(List Int)) ((List Int)×(List (List Rat)))):=(if(decide (v8<v3))=true then(if(decide ((v10.length:Int)<(v9.length:Int)))=true then((Loop (fun(s:Int)=>cf v3 v8 v9 v10 s) (v10.length:Int)).bind fun(v43,v44)=>some ((v43,v44))).bind fun(v45,v46)=>some (St.next ((IntKind.i64.wrap (v8+1)),v45,v46))else some (St.done (v10,v9)))else some (St.done (v10,v9)))
def gi(a1:List (List Rat)):Option ((List (List Rat))×(List Int)):=(gT a1).bind fun(v2,v3,v4)=>((Loop (fun(s:Int×(List (List Rat))×(List Int))=>bz v3 s.1 s.2.1 s.2.2) (0,a1,([]:List Int))).bind fun(v47,v48)=>some ((v47,v48))).bind fun(v49,v50)=>some (v50,v49)
theorem oy{a1:List (List Rat)}{r51:List (List Rat)}{r52:List Int}(h:gi a1=some (r51,r52)):aS PP 203 [(0,Hp.cl ak.rat 68 400 ([])),(400,Hp.store ak.rat 28 a1)] [D.own 0] [(0,Hp.cl ak.rat 68 700 ([])),(700,Hp.store ak.rat 28 r51),(400,Hp.dead)] (ag (ak.int .i64) r52):=by
 unfold gi at h
 refine .of Go.Proofs.Tryz.func203 rfl (by kernel_rfl) rfl rfl rfl rfl rfl rfl (fun A w0 L b=>?_)
 show Ok PP _ [(0,D.own 0),(1000000,D.pinned 0 (b 0)),(1000400,D.pinned 400 (b 400))] [(0,Hp.cl ak.rat 68 400 ([])),(400,Hp.store ak.rat 28 a1)] _ _
 refine .Gr 0 400 700 rfl rfl rfl rfl ?_
 refine .kj 0 rfl rfl rfl ?_
 refine .rJ 0 (.own 0) rfl .sl ?_
 refine .al (.GP rfl rfl rfl<|.aq rfl<|.nil) rfl ?_
 obtain⟨⟨v2,v3,v4⟩,e5,h⟩:=bind_some h
 refine .al (.bg (D.own 0) rfl rfl b7 rfl<|.Bi (ds0:=[D.own 0]) [(0,Hp.cl ak.rat 68 700 ([])),(700,Hp.store ak.rat 28 a1)] (nG e5) ⟨rfl,trivial⟩ ⟨rfl,rfl,trivial⟩ ⟨(.cl (.refl _) rfl rfl rfl),trivial⟩ (.iC ⟨.int,.int,.bool,trivial⟩) rfl<|.mv rfl<|.ext rfl rfl<|.ext rfl rfl<|.ext rfl rfl<|.gd ([D.int .i64 0]) DQ ⟨.refl _,trivial⟩ rfl<|.aq rfl<|.w8 ([D.int .i64 v3]) rfl rfl rfl cB rfl rfl rfl<|.aq rfl<|.nil) rfl ?_
 refine .al (.Gs (fs:=[]) (cs:=[.tmp 1,.tmp 4]) (l:=[]) (m:=[D.ref 1 0,D.ref 4 0]) trivial ⟨rfl,rfl,trivial⟩<|.aq rfl<|.nil) rfl ?_
 refine .al (.aq rfl<|.nil) rfl ?_
 obtain⟨o6,hp7,h⟩:=bind_some h
 refine .cd (fun i=>o6=i) (fun(i:(List Int)×(List (List Rat)))=>[(7,D.own 2000007),(1000000,D.pinned 0 (b 0)),(1000400,D.pinned 400 (b 400))]) (fun(i:(List Int)×(List (List Rat)))=>[(2000007,a_ (ak.int .i64) 3 i.1),(0,Hp.cl ak.rat 68 700 ([])),(700,Hp.store ak.rat 28 i.2),(400,Hp.dead)]) ?_ ?_
 ·have ho1:=h
  clear h
  have h:=hp7
  clear hp7
  refine .al (.aq rfl<|.nil) rfl ?_
  refine .jJ (ak.int .i64) 7 2000007 3 rfl rfl ?_
  obtain⟨o11,hl12,h⟩:=bind_some h
  have ho2:=h
  clear h
  refine .block (.b8 (fun(s:Int×(List (List Rat))×(List Int))=>[(1,D.ref 1 0),(4,D.ref 4 0),(6,D.pJ 236 [] [D.ref 1 0,D.ref 4 0]),(7,D.own 2000007),(8,D.int .i64 s.1),(1000000,D.pinned 0 (b 0)),(1000400,D.pinned 400 (b 400))]) (fun(s:Int×(List (List Rat))×(List Int))=>[(1,Hp.box 132 ([D.own 0])),(0,Hp.cl ak.rat 68 700 ([])),(700,Hp.store ak.rat 28 s.2.1),(4,Hp.box 3 ([D.int .i64 v3])),(2000007,a_ (ak.int .i64) 3 s.2.2),(400,Hp.dead)]) hl12 (.of rfl) (.of rfl) rfl rfl ?_)
  rintro⟨v8,v9,v10⟩ st13 hb14
  have h:bz v3 v8 v9 v10=some st13:=hb14
  clear hb14
  unfold bz at h
  try dsimp only
  refine .sq ?_
  refine .sl 7 rfl rfl rfl ?_
  by_cases c15:(decide (v8<v3))=true
  ·replace h:=aa c15 h
   refine .al (.mv rfl<|.bg (D.int .i64 v3) rfl rfl cB rfl<|.cm rfl rfl rfl<|.mv rfl<|.aV rfl rfl rfl c15<|.mv rfl<|.aV rfl rfl rfl c15<|.zS rfl ba<|.aV rfl rfl rfl c15<|.bg (D.own 0) rfl rfl b7 rfl<|.aV rfl rfl rfl c15<|.EE rfl rfl rfl bN<|.aV rfl rfl rfl c15<|.cm rfl rfl rfl<|.bn rfl c15 rfl<|.nil) rfl ?_
   by_cases c16:(decide ((v10.length:Int)<(v9.length:Int)))=true
   ·replace h:=aa c16 h
    refine .cj rfl c16 ?_
    refine .skip (Ok.on ?_)
    obtain⟨o17,hp18,h⟩:=bind_some h
    refine .cd (fun i=>o17=i) (fun(i:(List (List Rat))×(List Int))=>[(1,D.ref 1 0),(4,D.ref 4 0),(6,D.pJ 236 [] [D.ref 1 0,D.ref 4 0]),(7,D.own 69),(8,D.int .i64 v8),(1000000,D.pinned 0 (b 0)),(1000400,D.pinned 400 (b 400))]) (fun(i:(List (List Rat))×(List Int))=>[(1,Hp.box 132 ([D.own 0])),(0,Hp.cl ak.rat 68 3000000 ([])),(3000000,Hp.store ak.rat 28 i.1),(4,Hp.box 3 ([D.int .i64 v3])),(69,a_ (ak.int .i64) 3 i.2),(400,Hp.dead)]) ?_ ?_
    ·have ho3:=h
     clear h
     have h:=hp18
     clear hp18
     refine .block ?_
     refine .al (.mv rfl<|.zS rfl ba<|.aq rfl<|.nil) rfl ?_
     refine .al (.mv rfl<|.aq rfl<|.nil) rfl ?_
     obtain⟨o20,hl21,h⟩:=bind_some h
     have ho4:=h
     clear h
     refine .block (.b8 (fun(s:Int)=>[(1,D.ref 1 0),(4,D.ref 4 0),(6,D.pJ 236 [] [D.ref 1 0,D.ref 4 0]),(7,D.own 2000007),(8,D.int .i64 v8),(9,D.int .i64 (v10.length:Int)),(10,D.int .i64 s),(1000000,D.pinned 0 (b 0)),(1000400,D.pinned 400 (b 400))]) (fun(s:Int)=>[(1,Hp.box 132 ([D.own 0])),(0,Hp.cl ak.rat 68 700 ([])),(700,Hp.store ak.rat 28 v9),(4,Hp.box 3 ([D.int .i64 v3])),(2000007,a_ (ak.int .i64) 3 v10),(400,Hp.dead)]) hl21 ⟨⟨_,rfl,.refl _⟩,⟨_,rfl,.refl _⟩,⟨_,rfl,.refl _⟩,⟨_,rfl,.sl⟩,⟨_,rfl,.refl _⟩,⟨_,rfl,.refl _⟩,⟨_,rfl,.refl _⟩,⟨_,rfl,.refl _⟩,⟨_,rfl,.refl _⟩,trivial⟩ (.of rfl) rfl rfl ?_)
     rintro v19 st22 hb23
     have h:cf v3 v8 v9 v10 v19=some st22:=hb23
     clear hb23
     unfold cf at h
     try dsimp only
     refine .sq ?_
     refine .al (.mv rfl<|.bg (D.own 0) rfl rfl b7 rfl<|.EE rfl rfl rfl bN<|.cm rfl rfl rfl<|.nil) rfl ?_
     by_cases c24:(decide (v19<(v9.length:Int)))=true
     ·replace h:=aa c24 h
      refine .cj rfl c24 ?_
      refine .skip (Ok.on ?_)
      refine .sq ?_
      refine .block ?_
      obtain⟨v25,e26,h⟩:=bind_some h
      obtain⟨v27,e28,h⟩:=bind_some h
      obtain⟨v29,e30,h⟩:=bind_some h
      refine .al (.bg (D.own 0) rfl rfl b7 rfl<|.mv rfl<|.sk rfl rfl rfl rfl bL (af e26).1 (by have:=aW e26;have:=(af e26).1;(try simp only[List.length_set]at*);omega)<|.sv (aW e26) rfl rfl rfl rfl bT<|.mv rfl<|.uM rfl rfl rfl (af e26).2 cz (af e28).1 (by have:=aW e28;have:=(af e28).1;omega) rfl<|.oY rfl rfl (af e26).2 (af e28).2 ae rfl rfl<|.ah (wA e30) ⟨rfl,trivial⟩ trivial trivial<|.cm rfl rfl rfl<|.nil) rfl ?_
      by_cases c31:(v29 !=0)=true
      ·replace h:=aa c31 h
       refine .cj rfl c31 ?_
       obtain⟨v32,e33,h⟩:=bind_some h
       obtain⟨v34,e35,h⟩:=bind_some h
       obtain⟨v36,e37,h⟩:=bind_some h
       obtain⟨v38,e39,h⟩:=bind_some h
       refine .dc cg (.bg (D.own 0) rfl rfl b7 rfl<|.mv rfl<|.bg (D.own 0) rfl rfl b7 rfl<|.mv rfl<|.bg (D.own 0) rfl rfl b7 rfl<|.mv rfl<|.sk rfl rfl rfl rfl bL (af e33).1 (by have:=aW e33;have:=(af e33).1;(try simp only[List.length_set]at*);omega)<|.sv (aW e33) rfl rfl rfl rfl bT<|.bg (D.own 0) rfl rfl b7 rfl<|.mv rfl<|.sk rfl rfl rfl rfl bL (af e35).1 (by have:=aW e35;have:=(af e35).1;(try simp only[List.length_set]at*);omega)<|.sv (aW e35) rfl rfl rfl rfl bT<|.sk rfl rfl rfl rfl bL (af e37).1 (by have:=aW e37;have:=(af e37).1;(try simp only[List.length_set]at*);omega)<|.GJ (aW e37) rfl rfl rfl rfl rfl bT<|.F4 (n:=v9.length) rfl rfl rfl (by simp) bL (af e39).1 (by have:=aW e39;have:=(af e39).1;omega)<|.Gy (by have:=aW e39;simpa using this) rfl rfl rfl rfl rfl bT<|.nil) rfl (by kernel_rfl) ?_
       refine .DK (r:=0) (s:=700) (i:=(v10.length:Int)) (k:=v19) 3000000 rfl rfl rfl rfl (af e37).2 (af e33).2 ?_
       obtain⟨v40,e41,h⟩:=bind_some h
       refine .al (.mv rfl<|.mv rfl<|.mv rfl<|.DY (Hi:=[(1,Hp.box 132 ([D.own 0])),(4,Hp.box 3 ([D.int .i64 v3])),(0,Hp.cl ak.rat 68 3000000 ([])),(3000000,Hp.store ak.rat 28 ((v9.set (v10.length:Int).toNat v32).set v19.toNat v36))]) (Ho:=[(1,Hp.box 132 ([D.own 0])),(4,Hp.box 3 ([D.int .i64 v3])),(0,Hp.cl ak.rat 68 3000000 ([])),(3000000,Hp.store ak.rat 28 v40)]) (d:=D.iC []) (ds:=[D.int .i64 (v10.length:Int),D.int .i64 v8]) rfl (.Di (q5 e41) (fun r=>match r with|2=>1|202=>0|402=>3000000|3=>4|r=>r) (fun r=>match r with|1=>2|0=>202|3000000=>402|4=>3|r=>r) rfl ⟨⟨_,rfl,.box ⟨.own (r:=202),trivial⟩⟩,⟨_,rfl,.refl rfl⟩,⟨_,rfl,.cl (s:=402)⟩,⟨_,rfl,.refl rfl⟩,trivial⟩ rfl ⟨.refl rfl,.refl rfl,.ref (r:=2),.ref (r:=3),trivial⟩ ⟨⟨_,rfl,.box ⟨.own (r:=0),trivial⟩⟩,⟨_,rfl,.refl rfl⟩,⟨_,rfl,.cl (s:=3000000)⟩,⟨_,rfl,.refl rfl⟩,trivial⟩ rfl (.refl rfl) rfl rfl rfl rfl rfl) ⟨rfl,rfl,trivial⟩ ⟨rfl,rfl,rfl,rfl,trivial⟩ trivial<|.nil) rfl ?_
       refine .sl 7 rfl rfl rfl ?_
       obtain⟨k42,h⟩:=aw h
       refine .al (.mv rfl<|.mv rfl<|.zP (e:=(ak.int .i64)) [v8] [(0,_,D.int .i64 v8,[D.int .i64 v8])] fM rfl rfl rfl ⟨rfl,rfl,.one rfl,rfl,trivial⟩ ⟨rfl,trivial⟩ rfl rfl<|.yU (ys:=[v8]) rfl .sl rfl (.refl _) rfl fM rfl k42.1 k42.2 rfl<|.aq rfl<|.nil) rfl ?_
       refine .exit (fun a w hs=>⟨_,(Option.some.inj h).symm,fun e=>by subst e;have h:=ho4;exact aZ (⟨(v40,(v10++[v8])),(Option.some.inj h).symm,hs.sub (.of rfl) (.of rfl) rfl rfl⟩)⟩)
      ·replace h:=ab c31 h
       refine .ck rfl c31 ?_
       refine .skip (Ok.on ?_)
       refine .region (.mv rfl<|.ar rfl rfl rfl<|.aq rfl<|.nil) rfl (fun _ _ hs=>⟨(IntKind.i64.wrap (v19+1)),(Option.some.inj h).symm,hs.sub (.of rfl) (.of rfl) rfl rfl⟩)
     ·replace h:=ab c24 h
      refine .ck rfl c24 ?_
      refine .exit (fun a w hs=>⟨_,(Option.some.inj h).symm,fun e=>by subst e;have h:=ho4;exact aZ (⟨(v9,v10),(Option.some.inj h).symm,hs.nE (fun r=>match r with|69=>2000007|3000000=>700|r=>r) ⟨⟨_,rfl,.ref (r:=1)⟩,⟨_,rfl,.ref (r:=4)⟩,⟨_,rfl,.pJ trivial ⟨.ref (r:=1),.ref (r:=4),trivial⟩⟩,⟨_,rfl,.own (r:=69)⟩,⟨_,rfl,.refl rfl⟩,⟨_,rfl,.tL (r:=0)⟩,⟨_,rfl,.tL (r:=400)⟩,trivial⟩ ⟨⟨_,rfl,.box ⟨.own (r:=0),trivial⟩⟩,⟨_,rfl,.cl (s:=3000000)⟩,⟨_,rfl,.refl rfl⟩,⟨_,rfl,.refl rfl⟩,⟨_,rfl,.refl rfl⟩,⟨_,rfl,.refl rfl⟩,trivial⟩ rfl rfl rfl⟩)⟩)
    ·rintro⟨v45,v46⟩ rfl
     try dsimp only
     refine .region (.mv rfl<|.ar rfl rfl rfl<|.aq rfl<|.nil) rfl (fun _ _ hs=>⟨((IntKind.i64.wrap (v8+1)),v45,v46),(Option.some.inj h).symm,hs.nE (fun r=>match r with|2000007=>69|700=>3000000|r=>r) ⟨⟨_,rfl,.ref (r:=1)⟩,⟨_,rfl,.ref (r:=4)⟩,⟨_,rfl,.pJ trivial ⟨.ref (r:=1),.ref (r:=4),trivial⟩⟩,⟨_,rfl,.own (r:=2000007)⟩,⟨_,rfl,.refl rfl⟩,⟨_,rfl,.tL (r:=0)⟩,⟨_,rfl,.tL (r:=400)⟩,trivial⟩ ⟨⟨_,rfl,.box ⟨.own (r:=0),trivial⟩⟩,⟨_,rfl,.cl (s:=700)⟩,⟨_,rfl,.refl rfl⟩,⟨_,rfl,.refl rfl⟩,⟨_,rfl,.refl rfl⟩,⟨_,rfl,.refl rfl⟩,trivial⟩ rfl rfl rfl⟩)
   ·replace h:=ab c16 h
    refine .ck rfl c16 ?_
    refine .exit (fun a w hs=>⟨_,(Option.some.inj h).symm,fun e=>by subst e;have h:=ho2;exact aZ (⟨(v10,v9),(Option.some.inj h).symm,hs.sub ⟨⟨_,rfl,.sl⟩,⟨_,rfl,.refl _⟩,⟨_,rfl,.refl _⟩,trivial⟩ (.of rfl) rfl rfl⟩)⟩)
  ·replace h:=ab c15 h
   refine .al (.mv rfl<|.bg (D.int .i64 v3) rfl rfl cB rfl<|.cm rfl rfl rfl<|.mv rfl<|.aT rfl rfl rfl c15<|.aT rfl rfl rfl c15<|.aT rfl rfl rfl c15<|.aT rfl rfl rfl c15<|.aT rfl rfl rfl c15<|.bm rfl c15 rfl<|.nil) rfl ?_
   refine .ck rfl (by decide) ?_
   refine .exit (fun a w hs=>⟨_,(Option.some.inj h).symm,fun e=>by subst e;have h:=ho2;exact aZ (⟨(v10,v9),(Option.some.inj h).symm,hs.sub ⟨⟨_,rfl,.sl⟩,⟨_,rfl,.refl _⟩,⟨_,rfl,.refl _⟩,trivial⟩ (.of rfl) rfl rfl⟩)⟩)
 ·rintro⟨v49,v50⟩ rfl
  try dsimp only
  refine .sl 7 rfl rfl rfl ?_
  refine .al (.mv rfl<|.aq rfl<|.nil) rfl ?_
  refine .rJ 2 (.own 2000007) rfl .sl ?_
  refine .kJ 2 rfl rfl rfl ?_
  cases h
  refine .aH (fun _ _ hb=>hb) rfl (.cons (.tmp rfl) .nil) (.refl _) (.of rfl) (.of rfl)
def nF(a1:List (List Rat)):Option ((List (List Rat))×(List Int)×Int):=(gT a1).bind fun(v2,v3,v4)=>(if(!v4)=true then some ([],[],2)else(ir a1).bind fun v7=>(gi v7).bind fun(v9,v10)=>some (v9,v10,0))
theorem Fa{a1:List (List Rat)}{r12:List (List Rat)}{r13:List Int}{r14:Int}(h:nF a1=some (r12,r13,r14)):aS PP 125 [] [ag (ak.slice ak.rat) a1] [] (D.iC [ag (ak.slice ak.rat) r12,ag (ak.int .i64) r13,D.int .i64 r14]):=by
 unfold nF at h
 refine .of Go.Proofs.Tryz.func125 rfl (by kernel_rfl) rfl rfl rfl rfl rfl rfl (fun A w0 L b=>?_)
 show Ok PP _ [(0,ag (ak.slice ak.rat) a1)] [] _ _
 refine .al (.aq rfl<|.aq rfl<|.aq rfl<|.nil) rfl ?_
 refine .sq ?_
 obtain⟨⟨v2,v3,v4⟩,e5,h⟩:=bind_some h
 refine .al (.mv rfl<|.ah (nG e5) ⟨rfl,trivial⟩ trivial trivial<|.mv rfl<|.ext rfl rfl<|.ext rfl rfl<|.ext rfl rfl<|.aq rfl<|.aq rfl<|.aq rfl<|.nil) rfl ?_
 refine .al (.mv rfl<|.not rfl<|.nil) rfl ?_
 by_cases c6:(!v4)=true
 ·replace h:=aa c6 h
  refine .cj rfl c6 ?_
  refine .al (.aq rfl<|.aq rfl<|.aq rfl<|.nil) rfl ?_
  cases h
  refine .aH (fun _ _ hb=>hb) rfl (.cons (.tmp rfl) (.cons (.tmp rfl) (.cons (.tmp rfl) .nil))) (.iC ⟨.jJ _,.jJ _,.refl _,trivial⟩) trivial trivial
 ·replace h:=ab c6 h
  refine .ck rfl c6 ?_
  refine .skip (Ok.on ?_)
  obtain⟨v7,e8,h⟩:=bind_some h
  refine .al (.mv rfl<|.ah (Hi:=[]) (Ho:=[(18,Hp.cl ak.rat 68 3000018 ([])),(3000018,Hp.store ak.rat 28 v7)]) (d:=D.own 18) (ds:=[ag (ak.slice ak.rat) a1]) (.Di (tE e8) (fun r=>match r with|6=>18|4000006=>3000018|r=>r) (fun r=>match r with|18=>6|3000018=>4000006|r=>r) rfl trivial rfl ⟨.refl rfl,trivial⟩ ⟨⟨_,rfl,.cl (s:=3000018)⟩,⟨_,rfl,.refl rfl⟩,trivial⟩ rfl (.own (r:=18)) rfl rfl rfl rfl rfl) ⟨rfl,trivial⟩ trivial ⟨rfl,rfl,trivial⟩<|.aq rfl<|.nil) rfl ?_
  refine .kj 8 rfl rfl rfl ?_
  obtain⟨⟨v9,v10⟩,e11,h⟩:=bind_some h
  refine .al (.mv rfl<|.mv rfl<|.ah (Hi:=[(18,Hp.cl ak.rat 68 3000018 ([])),(3000018,Hp.store ak.rat 28 v7)]) (Ho:=[(18,Hp.cl ak.rat 68 3000021 ([])),(3000021,Hp.store ak.rat 28 v9),(3000018,Hp.dead)]) (d:=ag (ak.int .i64) v10) (ds:=[D.sl 18 v7.length]) (.Di (oy e11) (fun r=>match r with|0=>18|400=>3000018|700=>3000021|r=>r) (fun r=>match r with|18=>0|3000018=>400|3000021=>700|r=>r) rfl ⟨⟨_,rfl,.cl (s:=400)⟩,⟨_,rfl,.refl rfl⟩,trivial⟩ rfl ⟨.FV (r:=0),trivial⟩ ⟨⟨_,rfl,.cl (s:=3000021)⟩,⟨_,rfl,.refl rfl⟩,⟨_,rfl,.refl rfl⟩,trivial⟩ rfl (.refl rfl) rfl rfl rfl rfl rfl) ⟨rfl,trivial⟩ ⟨rfl,rfl,trivial⟩ ⟨rfl,trivial⟩<|.aq rfl<|.aq rfl<|.aq rfl<|.nil) rfl ?_
  refine .rJ 2 (.own 18) rfl .sl ?_
  refine .vW 2 rfl rfl rfl rfl rfl ?_
  cases h
  refine .aH (fun _ _ hb=>hb) rfl (.cons (.tmp rfl) (.cons (.tmp rfl) (.cons (.tmp rfl) .nil))) (.refl _) trivial trivial
def fZ(a1:List Int)(a2:Int)(v5:Int):Option (St Int (Ex Unit Int)):=(if(decide (v5<(a1.length:Int)))=true then(ix a1 v5).bind fun v11=>(if(a2==v11)=true then some (St.done (Ex.ret v5))else some (St.next (IntKind.i64.wrap (v5+1))))else some (St.done (Ex.da ())))
def kx(a1:List Int)(a2:Int):Option Int:=((Loop (fun(s:Int)=>fZ a1 a2 s) 0).bind fun o6=>(match o6 with|Ex.da ()=>some (Ex.da ())|Ex.ret r14=>some (Ex.ret r14))).bind fun o3=>(match o3 with|Ex.da ()=>some (-1)|Ex.ret r15=>some r15)
theorem vU{a1:List Int}{a2:Int}{r16:Int}(h:kx a1 a2=some r16):aS PP 237 [] [ag (ak.int .i64) a1,D.int .i64 a2] [] (D.int .i64 r16):=by
 unfold kx at h
 refine .of Go.Proofs.Tryz.func237 rfl (by kernel_rfl) rfl rfl rfl rfl rfl rfl (fun A w0 L b=>?_)
 show Ok PP _ [(0,ag (ak.int .i64) a1),(1,D.int .i64 a2)] [] _ _
 refine .al (.aq rfl<|.nil) rfl ?_
 obtain⟨o3,hp4,h⟩:=bind_some h
 refine .cd (fun i=>o3=Ex.da i) (fun(i:Unit)=>[]) (fun(i:Unit)=>[]) ?_ ?_
 ·have ho1:=h
  clear h
  have h:=hp4
  clear hp4
  refine .al (.mv rfl<|.ep rfl ba<|.mv rfl<|.nil) rfl ?_
  obtain⟨o6,hl7,h⟩:=bind_some h
  have ho2:=h
  clear h
  refine .block (.b8 (fun(s:Int)=>[(0,ag (ak.int .i64) a1),(1,D.int .i64 a2),(7,D.int .i64 (a1.length:Int)),(8,D.int .i64 s)]) (fun(s:Int)=>[]) hl7 (.of rfl) trivial rfl rfl ?_)
  rintro v5 st8 hb9
  have h:fZ a1 a2 v5=some st8:=hb9
  clear hb9
  unfold fZ at h
  try dsimp only
  refine .al (.cm rfl rfl rfl<|.nil) rfl ?_
  refine .sq ?_
  by_cases c10:(decide (v5<(a1.length:Int)))=true
  ·replace h:=aa c10 h
   refine .cj rfl c10 ?_
   refine .skip (Ok.on ?_)
   refine .sq ?_
   refine .block ?_
   refine .al (.mv rfl<|.aq rfl<|.nil) rfl ?_
   obtain⟨v11,e12,h⟩:=bind_some h
   refine .al (.mv rfl<|.mv rfl<|.mv rfl<|.ko rfl rfl cy (af e12).1 (af e12).2<|.gC rfl cB<|.cm rfl rfl rfl<|.nil) rfl ?_
   by_cases c13:(a2==v11)=true
   ·replace h:=aa c13 h
    refine .cj rfl c13 ?_
    refine .al (.mv rfl<|.aq rfl<|.nil) rfl ?_
    refine .aH (Hi:=[]) (Ho:=[]) (b:=b) (fn:=Go.Proofs.Tryz.f237) (d:=D.int .i64 v5) (fun _ _ hb=>by exact⟨_,(Option.some.inj h).symm,fun e=>by subst e;have h:=ho2;cases h;have h:=ho1;cases h;exact hb⟩) rfl (.cons (.tmp rfl) .nil) (.refl _) trivial trivial
   ·replace h:=ab c13 h
    refine .ck rfl c13 ?_
    refine .skip (Ok.on ?_)
    refine .region (.ar rfl rfl rfl<|.mv rfl<|.nil) rfl (fun _ _ hs=>⟨(IntKind.i64.wrap (v5+1)),(Option.some.inj h).symm,hs.sub (.of rfl) trivial rfl rfl⟩)
  ·replace h:=ab c10 h
   refine .ck rfl c10 ?_
   refine .exit (fun a w hs=>⟨_,(Option.some.inj h).symm,fun e=>by subst e;have h:=ho2;exact aZ (⟨(),(Option.some.inj h).symm,hs.sub trivial trivial rfl rfl⟩)⟩)
 ·rintro⟨⟩ rfl
  try dsimp only
  refine .al (.aq rfl<|.nil) rfl ?_
  cases h
  refine .aH (fun _ _ hb=>hb) rfl (.cons (.tmp rfl) .nil) (.refl _) trivial trivial
def ff(a1:List Int)(a2:Int):Option Bool:=(kx a1 a2).bind fun v3=>some (decide (v3>=0))
theorem mA{a1:List Int}{a2:Int}{r5:Bool}(h:ff a1 a2=some r5):aS PP 205 [] [ag (ak.int .i64) a1,D.int .i64 a2] [] (D.bool r5):=by
 unfold ff at h
 refine .of Go.Proofs.Tryz.func205 rfl (by kernel_rfl) rfl rfl rfl rfl rfl rfl (fun A w0 L b=>?_)
 show Ok PP _ [(0,ag (ak.int .i64) a1),(1,D.int .i64 a2)] [] _ _
 refine .al (.aq rfl<|.nil) rfl ?_
 obtain⟨v3,e4,h⟩:=bind_some h
 refine .al (.mv rfl<|.mv rfl<|.ah (vU e4) ⟨rfl,rfl,trivial⟩ trivial trivial<|.cm rfl rfl rfl<|.aq rfl<|.nil) rfl ?_
 cases h
 refine .aH (fun _ _ hb=>hb) rfl (.cons (.tmp rfl) .nil) (.refl _) trivial trivial
def gV(a1:List (List Rat))(a2:List Rat)(v11:Int)(v12:List (List Rat)):Option (St (Int×(List (List Rat))) (List (List Rat))):=(if(decide (v11<(a1.length:Int)))=true then(ix a1 v11).bind fun v18=>(kn v18).bind fun v20=>(ix a2 v11).bind fun v22=>bZ ((v20.length+([v22]).length)*56<=140737488355328/\v20.length+([v22]).length<=9223372036854775807) (bZ ((v12.length+1)*24<=140737488355328/\v12.length+1<=9223372036854775807) (some (St.next ((IntKind.i64.wrap (v11+1)),(v12++[(v20++[v22])])))))else some (St.done v12))
def dZ(v4:Int)(v28:List (List Rat))(v29:List Int)(v37:Int)(v38:List Rat):Option (St (Int×(List Rat)) (List Rat)):=(if(decide (v37<(v29.length:Int)))=true then(ix v29 v37).bind fun v44=>(ix v28 v37).bind fun v46=>(ix v46 v4).bind fun v48=>(ix v38 v44).bind fun v50=>some (St.next ((IntKind.i64.wrap (v37+1)),(v38.set v44.toNat v48)))else some (St.done v38))
def gX(v28:List (List Rat))(v29:List Int)(v56:Int)(v75:Int)(v76:List Rat):Option (St (Int×(List Rat)) (List Rat)):=(if(decide (v75<(v29.length:Int)))=true then(ix v29 v75).bind fun v82=>(ix v28 v75).bind fun v84=>(ix v84 v56).bind fun v86=>(vP v86).bind fun v88=>(ix v76 v82).bind fun v90=>some (St.next ((IntKind.i64.wrap (v75+1)),(v76.set v82.toNat v88)))else some (St.done v76))
def dv(v4:Int)(v28:List (List Rat))(v29:List Int)(v56:Int)(v57:List (List Rat)):Option (St (Int×(List (List Rat))) (List (List Rat))):=(if(decide (v56<v4))=true then((ff v29 v56).bind fun v65=>(if v65=true then some (v57)else bZ ((0:Int)<=v4/\(56:Int)*v4<=281474976710656/\(v4:Int)<=9223372036854775807) ((gz 1).bind fun v69=>(ix (List.replicate v4.toNat (0:Rat)) v56).bind fun v71=>((Loop (fun(s:Int×(List Rat))=>gX v28 v29 v56 s.1 s.2) (0,((List.replicate v4.toNat (0:Rat)).set v56.toNat v69))).bind fun v92=>some (v92)).bind fun v93=>bZ ((v57.length+1)*24<=140737488355328/\v57.length+1<=9223372036854775807) (some ((v57++[v93])))))).bind fun v95=>some (St.next ((IntKind.i64.wrap (v56+1)),v95))else some (St.done v57))
def iq(a1:List (List Rat))(a2:List Rat):Option ((List Rat)×(List (List Rat))×Int):=(gT a1).bind fun(v3,v4,v5)=>(if(!v5)=true then some ([],[],2)else(if(v3 !=(a2.length:Int))=true then some ([],[],2)else((Loop (fun(s:Int×(List (List Rat)))=>gV a1 a2 s.1 s.2) (0,([]:List (List Rat)))).bind fun v26=>some (v26)).bind fun v27=>(gi v27).bind fun(v28,v29)=>(ff v29 v4).bind fun v31=>(if v31=true then some ([],[],8)else bZ ((0:Int)<=v4/\(56:Int)*v4<=281474976710656/\(v4:Int)<=9223372036854775807) (((Loop (fun(s:Int×(List Rat))=>dZ v4 v28 v29 s.1 s.2) (0,(List.replicate v4.toNat (0:Rat)))).bind fun v52=>some (v52)).bind fun v53=>((Loop (fun(s:Int×(List (List Rat)))=>dv v4 v28 v29 s.1 s.2) (0,([]:List (List Rat)))).bind fun v96=>some (v96)).bind fun v97=>some (v53,v97,0)))))
theorem C8{a1:List (List Rat)}{a2:List Rat}{r98:List Rat}{r99:List (List Rat)}{r100:Int}(h:iq a1 a2=some (r98,r99,r100)):aS PP 126 [] [ag (ak.slice ak.rat) a1,ag ak.rat a2] [] (D.iC [ag ak.rat r98,ag (ak.slice ak.rat) r99,D.int .i64 r100]):=by
 unfold iq at h
 refine .of Go.Proofs.Tryz.func126 rfl (by kernel_rfl) rfl rfl rfl rfl rfl rfl (fun A w0 L b=>?_)
 show Ok PP _ [(0,ag (ak.slice ak.rat) a1),(1,ag ak.rat a2)] [] _ _
 refine .al (.aq rfl<|.aq rfl<|.aq rfl<|.nil) rfl ?_
 obtain⟨⟨v3,v4,v5⟩,e6,h⟩:=bind_some h
 refine .al (.mv rfl<|.ah (nG e6) ⟨rfl,trivial⟩ trivial trivial<|.mv rfl<|.ext rfl rfl<|.ext rfl rfl<|.ext rfl rfl<|.aq rfl<|.aq rfl<|.aq rfl<|.nil) rfl ?_
 refine .sq ?_
 by_cases c7:(!v5)=true
 ·replace h:=aa c7 h
  refine .al (.mv rfl<|.not rfl<|.mv rfl<|.eQ rfl rfl rfl c7<|.eQ rfl rfl rfl c7<|.eQ rfl rfl rfl c7<|.eQ rfl rfl rfl c7<|.bn rfl c7 rfl<|.nil) rfl ?_
  refine .cj rfl rfl ?_
  refine .al (.aq rfl<|.aq rfl<|.aq rfl<|.nil) rfl ?_
  cases h
  refine .aH (fun _ _ hb=>hb) rfl (.cons (.tmp rfl) (.cons (.tmp rfl) (.cons (.tmp rfl) .nil))) (.iC ⟨.jJ _,.jJ _,.refl _,trivial⟩) trivial trivial
 ·replace h:=ab c7 h
  refine .al (.mv rfl<|.not rfl<|.mv rfl<|.dn rfl rfl rfl c7<|.mv rfl<|.dn rfl rfl rfl c7<|.mv rfl<|.dn rfl rfl rfl c7<|.ep rfl dp<|.dn rfl rfl rfl c7<|.cm rfl rfl rfl<|.bm rfl c7 rfl<|.nil) rfl ?_
  by_cases c8:(v3 !=(a2.length:Int))=true
  ·replace h:=aa c8 h
   refine .cj rfl c8 ?_
   refine .al (.aq rfl<|.aq rfl<|.aq rfl<|.nil) rfl ?_
   cases h
   refine .aH (fun _ _ hb=>hb) rfl (.cons (.tmp rfl) (.cons (.tmp rfl) (.cons (.tmp rfl) .nil))) (.iC ⟨.jJ _,.jJ _,.refl _,trivial⟩) trivial trivial
  ·replace h:=ab c8 h
   refine .ck rfl c8 ?_
   refine .skip (Ok.on ?_)
   refine .al (.aq rfl<|.nil) rfl ?_
   obtain⟨v27,hp10,h⟩:=bind_some h
   refine .cd (fun i=>v27=i) (fun(i:(List (List Rat)))=>[(5,D.own 2000005),(8,D.int .i64 v4),(10,D.own 2000010)]) (fun(i:(List (List Rat)))=>[(2000005,Hp.cl ak.rat 68 4000005 ([])),(4000005,Hp.store ak.rat 28 ([]:List (List Rat))),(2000010,Hp.cl ak.rat 68 4000010 ([])),(4000010,Hp.store ak.rat 28 i)]) ?_ ?_
   ·have ho1:=h
    clear h
    have h:=hp10
    clear hp10
    refine .al (.mv rfl<|.ep rfl bN<|.mv rfl<|.nil) rfl ?_
    refine .z8 ak.rat 5 2000005 4000005 68 28 rfl rfl rfl rfl ?_
    refine .z8 ak.rat 10 2000010 4000010 68 28 rfl rfl rfl rfl ?_
    obtain⟨o13,hl14,h⟩:=bind_some h
    have ho2:=h
    clear h
    refine .block (.b8 (fun(s:Int×(List (List Rat)))=>[(1,ag ak.rat a2),(5,D.own 2000005),(8,D.int .i64 v4),(10,D.own 2000010),(34,ag (ak.slice ak.rat) a1),(35,D.int .i64 (a1.length:Int)),(36,D.int .i64 s.1)]) (fun(s:Int×(List (List Rat)))=>[(2000005,Hp.cl ak.rat 68 4000005 ([])),(4000005,Hp.store ak.rat 28 ([]:List (List Rat))),(2000010,Hp.cl ak.rat 68 4000010 ([])),(4000010,Hp.store ak.rat 28 s.2)]) hl14 (.of rfl) (.of rfl) rfl rfl ?_)
    rintro⟨v11,v12⟩ st15 hb16
    have h:gV a1 a2 v11 v12=some st15:=hb16
    clear hb16
    unfold gV at h
    try dsimp only
    refine .al (.cm rfl rfl rfl<|.nil) rfl ?_
    refine .sq ?_
    by_cases c17:(decide (v11<(a1.length:Int)))=true
    ·replace h:=aa c17 h
     refine .cj rfl c17 ?_
     refine .skip (Ok.on ?_)
     refine .sq ?_
     refine .block ?_
     obtain⟨v18,e19,h⟩:=bind_some h
     refine .al (.mv rfl<|.ko rfl rfl bL (af e19).1 (af e19).2<|.gC rfl bT<|.aq rfl<|.aq rfl<|.nil) rfl ?_
     refine .kj 10 rfl rfl rfl ?_
     obtain⟨v20,e21,h⟩:=bind_some h
     obtain⟨v22,e23,h⟩:=bind_some h
     obtain⟨k24,h⟩:=aw h
     obtain⟨k25,h⟩:=aw h
     refine .c_ cg (.mv rfl<|.mv rfl<|.yx (hl:=dM _ _) (vy e21) ⟨rfl,trivial⟩ rfl<|.mv rfl<|.mv rfl<|.ko rfl rfl cz (af e23).1 (af e23).2<|.EW (l:=qC (v22)) rfl ae rfl<|.zP (e:=ak.rat) [v22] [(0,_,qD v22,qC (v22))] fh rfl rfl rfl ⟨rfl,rfl,.agg _,rfl,trivial⟩ ⟨rfl,trivial⟩ rfl rfl<|.yU (ys:=[v22]) rfl (.refl _) rfl (.refl _) rfl fh rfl k24.1 k24.2 rfl<|.Fv rfl eO rfl<|.FH (s2:=3000051) rfl .sl rfl rfl rfl rfl rfl eO k25.1 k25.2 rfl rfl ⟨by decide,by decide,by decide,by decide,by decide,by decide,by decide⟩<|.aq rfl<|.nil) rfl (by kernel_rfl) (Ok.on ?_)
     refine .region (.ar rfl rfl rfl<|.mv rfl<|.nil) rfl (fun _ _ hs=>⟨((IntKind.i64.wrap (v11+1)),(v12++[(v20++[v22])])),(Option.some.inj h).symm,hs.nE (fun r=>match r with|2000010=>51|4000010=>3000051|r=>r) ⟨⟨_,rfl,.refl rfl⟩,⟨_,rfl,.own (r:=2000005)⟩,⟨_,rfl,.refl rfl⟩,⟨_,rfl,.own (r:=2000010)⟩,⟨_,rfl,.refl rfl⟩,⟨_,rfl,.refl rfl⟩,⟨_,rfl,.refl rfl⟩,trivial⟩ ⟨⟨_,rfl,.cl (s:=4000005)⟩,⟨_,rfl,.refl rfl⟩,⟨_,rfl,.cl (s:=4000010)⟩,⟨_,rfl,.refl rfl⟩,trivial⟩ rfl rfl rfl⟩)
    ·replace h:=ab c17 h
     refine .ck rfl c17 ?_
     refine .exit (fun a w hs=>⟨_,(Option.some.inj h).symm,fun e=>by subst e;have h:=ho2;exact aZ (⟨v12,(Option.some.inj h).symm,hs.sub (.of rfl) (.of rfl) rfl rfl⟩)⟩)
   ·rintro _ rfl
    try dsimp only
    refine .kj 10 rfl rfl rfl ?_
    obtain⟨⟨v28,v29⟩,e30,h⟩:=bind_some h
    refine .al (.mv rfl<|.ah (Hi:=[(2000010,Hp.cl ak.rat 68 4000010 ([])),(4000010,Hp.store ak.rat 28 v27)]) (Ho:=[(2000010,Hp.cl ak.rat 68 3000054 ([])),(3000054,Hp.store ak.rat 28 v28),(4000010,Hp.dead)]) (d:=ag (ak.int .i64) v29) (ds:=[D.sl 2000010 v27.length]) (.Di (oy e30) (fun r=>match r with|0=>2000010|400=>4000010|700=>3000054|r=>r) (fun r=>match r with|2000010=>0|4000010=>400|3000054=>700|r=>r) rfl ⟨⟨_,rfl,.cl (s:=400)⟩,⟨_,rfl,.refl rfl⟩,trivial⟩ rfl ⟨.FV (r:=0),trivial⟩ ⟨⟨_,rfl,.cl (s:=3000054)⟩,⟨_,rfl,.refl rfl⟩,⟨_,rfl,.refl rfl⟩,trivial⟩ rfl (.refl rfl) rfl rfl rfl rfl rfl) ⟨rfl,trivial⟩ ⟨rfl,rfl,trivial⟩ ⟨rfl,trivial⟩<|.aq rfl<|.nil) rfl ?_
    refine .sq ?_
    obtain⟨v31,e32,h⟩:=bind_some h
    refine .al (.mv rfl<|.mv rfl<|.ah (mA e32) ⟨rfl,rfl,trivial⟩ trivial trivial<|.nil) rfl ?_
    by_cases c33:v31=true
    ·replace h:=aa c33 h
     refine .cj rfl c33 ?_
     refine .al (.aq rfl<|.aq rfl<|.aq rfl<|.nil) rfl ?_
     cases h
     refine .aH (fun _ _ hb=>hb) rfl (.cons (.tmp rfl) (.cons (.tmp rfl) (.cons (.tmp rfl) .nil))) (.iC ⟨.jJ _,.jJ _,.refl _,trivial⟩) trivial trivial
    ·replace h:=ab c33 h
     refine .ck rfl c33 ?_
     refine .skip (Ok.on ?_)
     obtain⟨k34,h⟩:=aw h
     refine .al (.mv rfl<|.Fj (e:=ak.rat) 0 rfl rfl fh rfl ⟨nr,nT,nS,trivial⟩ k34.1 k34.2.1 k34.2.2 rfl<|.aq rfl<|.nil) rfl ?_
     obtain⟨v53,hp36,h⟩:=bind_some h
     refine .cd (fun i=>v53=i) (fun(i:(List Rat))=>[(4,D.own 59),(5,D.own 2000005),(8,D.int .i64 v4),(10,D.own 2000010),(13,ag (ak.int .i64) v29)]) (fun(i:(List Rat))=>[(59,a_ ak.rat 28 i),(2000005,Hp.cl ak.rat 68 4000005 ([])),(4000005,Hp.store ak.rat 28 ([]:List (List Rat))),(2000010,Hp.cl ak.rat 68 3000054 ([])),(3000054,Hp.store ak.rat 28 v28)]) ?_ ?_
     ·have ho1:=h
      clear h
      have h:=hp36
      clear hp36
      refine .al (.mv rfl<|.ep rfl ba<|.mv rfl<|.nil) rfl ?_
      obtain⟨o39,hl40,h⟩:=bind_some h
      have ho2:=h
      clear h
      refine .block (.b8 (fun(s:Int×(List Rat))=>[(4,D.own 59),(5,D.own 2000005),(8,D.int .i64 v4),(10,D.own 2000010),(13,ag (ak.int .i64) v29),(60,ag (ak.int .i64) v29),(61,D.int .i64 (v29.length:Int)),(62,D.int .i64 s.1)]) (fun(s:Int×(List Rat))=>[(59,a_ ak.rat 28 s.2),(2000005,Hp.cl ak.rat 68 4000005 ([])),(4000005,Hp.store ak.rat 28 ([]:List (List Rat))),(2000010,Hp.cl ak.rat 68 3000054 ([])),(3000054,Hp.store ak.rat 28 v28)]) hl40 ⟨⟨_,rfl,.refl _⟩,⟨_,rfl,.refl _⟩,⟨_,rfl,.refl _⟩,⟨_,rfl,.sl⟩,⟨_,rfl,.refl _⟩,⟨_,rfl,.refl _⟩,⟨_,rfl,.refl _⟩,⟨_,rfl,.refl _⟩,trivial⟩ (.of rfl) rfl rfl ?_)
      rintro⟨v37,v38⟩ st41 hb42
      have h:dZ v4 v28 v29 v37 v38=some st41:=hb42
      clear hb42
      unfold dZ at h
      try dsimp only
      refine .al (.cm rfl rfl rfl<|.nil) rfl ?_
      refine .sq ?_
      by_cases c43:(decide (v37<(v29.length:Int)))=true
      ·replace h:=aa c43 h
       refine .cj rfl c43 ?_
       refine .skip (Ok.on ?_)
       refine .sq ?_
       refine .block ?_
       obtain⟨v44,e45,h⟩:=bind_some h
       refine .al (.mv rfl<|.ko rfl rfl cy (af e45).1 (af e45).2<|.gC rfl cB<|.aq rfl<|.aq rfl<|.nil) rfl ?_
       refine .sl 4 rfl rfl rfl ?_
       refine .kj 10 rfl rfl rfl ?_
       obtain⟨v46,e47,h⟩:=bind_some h
       obtain⟨v48,e49,h⟩:=bind_some h
       obtain⟨v50,e51,h⟩:=bind_some h
       refine .region (.mv rfl<|.mv rfl<|.mv rfl<|.mv rfl<|.oH rfl rfl bL (af e47).1 (by have:=aW e47;have:=(af e47).1;(try simp only[List.length_set]at*);omega)<|.sv (aW e47) rfl rfl rfl rfl bT<|.mv rfl<|.uM rfl rfl rfl (af e47).2 cz (af e49).1 (by have:=aW e49;have:=(af e49).1;omega) rfl<|.oY rfl rfl (af e47).2 (af e49).2 ae rfl rfl<|.oH rfl rfl cz (af e51).1 (by have:=aW e51;have:=(af e51).1;(try simp only[List.length_set]at*);omega)<|.zM v48 rfl rfl rfl ae rfl rfl rfl (aW e51)<|.nil) rfl (Ok.on ?_)
       refine .region (.ar rfl rfl rfl<|.mv rfl<|.nil) rfl (fun _ _ hs=>⟨((IntKind.i64.wrap (v37+1)),(v38.set v44.toNat v48)),(Option.some.inj h).symm,hs.sub ⟨⟨_,rfl,.sl⟩,⟨_,rfl,.refl _⟩,⟨_,rfl,.refl _⟩,⟨_,rfl,.sl⟩,⟨_,rfl,.refl _⟩,⟨_,rfl,.refl _⟩,⟨_,rfl,.refl _⟩,⟨_,rfl,.refl _⟩,trivial⟩ (.of rfl) rfl rfl⟩)
      ·replace h:=ab c43 h
       refine .ck rfl c43 ?_
       refine .exit (fun a w hs=>⟨_,(Option.some.inj h).symm,fun e=>by subst e;have h:=ho2;exact aZ (⟨v38,(Option.some.inj h).symm,hs.sub (.of rfl) (.of rfl) rfl rfl⟩)⟩)
     ·rintro _ rfl
      try dsimp only
      obtain⟨v97,hp55,h⟩:=bind_some h
      refine .cd (fun i=>v97=i) (fun(i:(List (List Rat)))=>[(4,D.own 59),(5,D.own 2000005)]) (fun(i:(List (List Rat)))=>[(59,a_ ak.rat 28 v53),(2000005,Hp.cl ak.rat 68 4000005 ([])),(4000005,Hp.store ak.rat 28 i)]) ?_ ?_
      ·have ho1:=h
       clear h
       have h:=hp55
       clear hp55
       refine .al (.mv rfl<|.mv rfl<|.nil) rfl ?_
       obtain⟨o58,hl59,h⟩:=bind_some h
       have ho2:=h
       clear h
       refine .block (.b8 (fun(s:Int×(List (List Rat)))=>[(4,D.own 59),(5,D.own 2000005),(8,D.int .i64 v4),(10,D.own 2000010),(13,ag (ak.int .i64) v29),(78,D.int .i64 v4),(79,D.int .i64 s.1)]) (fun(s:Int×(List (List Rat)))=>[(59,a_ ak.rat 28 v53),(2000005,Hp.cl ak.rat 68 4000005 ([])),(4000005,Hp.store ak.rat 28 s.2),(2000010,Hp.cl ak.rat 68 3000054 ([])),(3000054,Hp.store ak.rat 28 v28)]) hl59 (.of rfl) (.of rfl) rfl rfl ?_)
       rintro⟨v56,v57⟩ st60 hb61
       have h:dv v4 v28 v29 v56 v57=some st60:=hb61
       clear hb61
       unfold dv at h
       try dsimp only
       refine .al (.cm rfl rfl rfl<|.nil) rfl ?_
       refine .sq ?_
       by_cases c62:(decide (v56<v4))=true
       ·replace h:=aa c62 h
        refine .cj rfl c62 ?_
        refine .skip (Ok.on ?_)
        obtain⟨v95,hp64,h⟩:=bind_some h
        refine .cd (fun i=>v95=i) (fun(i:(List (List Rat)))=>[(4,D.own 59),(5,D.own 2000005),(8,D.int .i64 v4),(10,D.own 2000010),(13,ag (ak.int .i64) v29),(78,D.int .i64 v4),(79,D.int .i64 v56)]) (fun(i:(List (List Rat)))=>[(59,a_ ak.rat 28 v53),(2000005,Hp.cl ak.rat 68 4000005 ([])),(4000005,Hp.store ak.rat 28 i),(2000010,Hp.cl ak.rat 68 3000054 ([])),(3000054,Hp.store ak.rat 28 v28)]) ?_ ?_
        ·have ho3:=h
         clear h
         have h:=hp64
         clear hp64
         refine .block ?_
         refine .al (.mv rfl<|.aq rfl<|.nil) rfl ?_
         refine .sq ?_
         obtain⟨v65,e66,h⟩:=bind_some h
         refine .al (.mv rfl<|.mv rfl<|.ah (mA e66) ⟨rfl,rfl,trivial⟩ trivial trivial<|.nil) rfl ?_
         by_cases c67:v65=true
         ·replace h:=aa c67 h
          refine .cj rfl c67 ?_
          refine .exit (fun _ _ hs=>⟨v57,(Option.some.inj h).symm,hs.sub (.of rfl) (.of rfl) rfl rfl⟩)
         ·replace h:=ab c67 h
          refine .ck rfl c67 ?_
          refine .skip (Ok.on ?_)
          obtain⟨k68,h⟩:=aw h
          refine .al (.mv rfl<|.Fj (e:=ak.rat) 0 rfl rfl fh rfl ⟨nr,nT,nS,trivial⟩ k68.1 k68.2.1 k68.2.2 rfl<|.aq rfl<|.nil) rfl ?_
          refine .sl 17 rfl rfl rfl ?_
          obtain⟨v69,e70,h⟩:=bind_some h
          obtain⟨v71,e72,h⟩:=bind_some h
          refine .al (.mv rfl<|.mv rfl<|.ah (kX e70) ⟨rfl,trivial⟩ trivial trivial<|.oH rfl rfl cz (af e72).1 (by have:=aW e72;have:=(af e72).1;(try simp only[List.length_set]at*);omega)<|.zM v69 rfl rfl rfl ae rfl rfl rfl (aW e72)<|.nil) rfl ?_
          obtain⟨v93,hp74,h⟩:=bind_some h
          refine .cd (fun i=>v93=i) (fun(i:(List Rat))=>[(4,D.own 59),(5,D.own 2000005),(8,D.int .i64 v4),(10,D.own 2000010),(13,ag (ak.int .i64) v29),(17,D.own 86),(78,D.int .i64 v4),(79,D.int .i64 v56)]) (fun(i:(List Rat))=>[(59,a_ ak.rat 28 v53),(2000005,Hp.cl ak.rat 68 4000005 ([])),(4000005,Hp.store ak.rat 28 v57),(2000010,Hp.cl ak.rat 68 3000054 ([])),(3000054,Hp.store ak.rat 28 v28),(86,a_ ak.rat 28 i)]) ?_ ?_
          ·have ho4:=h
           clear h
           have h:=hp74
           clear hp74
           refine .al (.mv rfl<|.ep rfl ba<|.mv rfl<|.nil) rfl ?_
           obtain⟨o77,hl78,h⟩:=bind_some h
           have ho5:=h
           clear h
           refine .block (.b8 (fun(s:Int×(List Rat))=>[(4,D.own 59),(5,D.own 2000005),(8,D.int .i64 v4),(10,D.own 2000010),(13,ag (ak.int .i64) v29),(16,D.int .i64 v56),(17,D.own 86),(78,D.int .i64 v4),(79,D.int .i64 v56),(91,ag (ak.int .i64) v29),(92,D.int .i64 (v29.length:Int)),(93,D.int .i64 s.1)]) (fun(s:Int×(List Rat))=>[(59,a_ ak.rat 28 v53),(2000005,Hp.cl ak.rat 68 4000005 ([])),(4000005,Hp.store ak.rat 28 v57),(2000010,Hp.cl ak.rat 68 3000054 ([])),(3000054,Hp.store ak.rat 28 v28),(86,a_ ak.rat 28 s.2)]) hl78 ⟨⟨_,rfl,.refl _⟩,⟨_,rfl,.refl _⟩,⟨_,rfl,.refl _⟩,⟨_,rfl,.refl _⟩,⟨_,rfl,.refl _⟩,⟨_,rfl,.refl _⟩,⟨_,rfl,.sl⟩,⟨_,rfl,.refl _⟩,⟨_,rfl,.refl _⟩,⟨_,rfl,.refl _⟩,⟨_,rfl,.refl _⟩,⟨_,rfl,.refl _⟩,trivial⟩ (.of rfl) rfl rfl ?_)
           rintro⟨v75,v76⟩ st79 hb80
           have h:gX v28 v29 v56 v75 v76=some st79:=hb80
           clear hb80
           unfold gX at h
           try dsimp only
           refine .al (.cm rfl rfl rfl<|.nil) rfl ?_
           refine .sq ?_
           by_cases c81:(decide (v75<(v29.length:Int)))=true
           ·replace h:=aa c81 h
            refine .cj rfl c81 ?_
            refine .skip (Ok.on ?_)
            refine .sq ?_
            refine .block ?_
            obtain⟨v82,e83,h⟩:=bind_some h
            refine .al (.mv rfl<|.ko rfl rfl cy (af e83).1 (af e83).2<|.gC rfl cB<|.aq rfl<|.aq rfl<|.nil) rfl ?_
            refine .kj 10 rfl rfl rfl ?_
            refine .sl 17 rfl rfl rfl ?_
            obtain⟨v84,e85,h⟩:=bind_some h
            obtain⟨v86,e87,h⟩:=bind_some h
            obtain⟨v88,e89,h⟩:=bind_some h
            obtain⟨v90,e91,h⟩:=bind_some h
            refine .region (.mv rfl<|.mv rfl<|.mv rfl<|.mv rfl<|.oH rfl rfl bL (af e85).1 (by have:=aW e85;have:=(af e85).1;(try simp only[List.length_set]at*);omega)<|.sv (aW e85) rfl rfl rfl rfl bT<|.mv rfl<|.uM rfl rfl rfl (af e85).2 cz (af e87).1 (by have:=aW e87;have:=(af e87).1;omega) rfl<|.oY rfl rfl (af e85).2 (af e87).2 ae rfl rfl<|.ah (FJ e89) ⟨rfl,trivial⟩ trivial trivial<|.oH rfl rfl cz (af e91).1 (by have:=aW e91;have:=(af e91).1;(try simp only[List.length_set]at*);omega)<|.zM v88 rfl rfl rfl ae rfl rfl rfl (aW e91)<|.nil) rfl (Ok.on ?_)
            refine .region (.ar rfl rfl rfl<|.mv rfl<|.nil) rfl (fun _ _ hs=>⟨((IntKind.i64.wrap (v75+1)),(v76.set v82.toNat v88)),(Option.some.inj h).symm,hs.sub ⟨⟨_,rfl,.refl _⟩,⟨_,rfl,.refl _⟩,⟨_,rfl,.refl _⟩,⟨_,rfl,.sl⟩,⟨_,rfl,.refl _⟩,⟨_,rfl,.refl _⟩,⟨_,rfl,.sl⟩,⟨_,rfl,.refl _⟩,⟨_,rfl,.refl _⟩,⟨_,rfl,.refl _⟩,⟨_,rfl,.refl _⟩,⟨_,rfl,.refl _⟩,trivial⟩ (.of rfl) rfl rfl⟩)
           ·replace h:=ab c81 h
            refine .ck rfl c81 ?_
            refine .exit (fun a w hs=>⟨_,(Option.some.inj h).symm,fun e=>by subst e;have h:=ho5;exact aZ (⟨v76,(Option.some.inj h).symm,hs.sub (.of rfl) (.of rfl) rfl rfl⟩)⟩)
          ·rintro _ rfl
           try dsimp only
           refine .kj 5 rfl rfl rfl ?_
           refine .sl 17 rfl rfl rfl ?_
           refine .rJ 17 (.own 86) rfl .sl ?_
           obtain⟨k94,h⟩:=aw h
           refine .region (.mv rfl<|.mv rfl<|.Fv rfl eO rfl<|.FH (s2:=3000113) rfl .sl rfl rfl rfl rfl rfl eO k94.1 k94.2 rfl rfl ⟨by decide,by decide,by decide,by decide,by decide,by decide,by decide⟩<|.aq rfl<|.nil) rfl (fun _ _ hs=>⟨(v57++[v93]),(Option.some.inj h).symm,hs.nE (fun r=>match r with|2000005=>113|4000005=>3000113|r=>r) ⟨⟨_,rfl,.own (r:=59)⟩,⟨_,rfl,.own (r:=2000005)⟩,⟨_,rfl,.refl rfl⟩,⟨_,rfl,.own (r:=2000010)⟩,⟨_,rfl,.refl rfl⟩,⟨_,rfl,.refl rfl⟩,⟨_,rfl,.refl rfl⟩,trivial⟩ ⟨⟨_,rfl,.refl rfl⟩,⟨_,rfl,.cl (s:=4000005)⟩,⟨_,rfl,.refl rfl⟩,⟨_,rfl,.cl (s:=3000054)⟩,⟨_,rfl,.refl rfl⟩,trivial⟩ rfl rfl rfl⟩)
        ·rintro _ rfl
         try dsimp only
         refine .region (.ar rfl rfl rfl<|.mv rfl<|.nil) rfl (fun _ _ hs=>⟨((IntKind.i64.wrap (v56+1)),v95),(Option.some.inj h).symm,hs.sub (.of rfl) (.of rfl) rfl rfl⟩)
       ·replace h:=ab c62 h
        refine .ck rfl c62 ?_
        refine .exit (fun a w hs=>⟨_,(Option.some.inj h).symm,fun e=>by subst e;have h:=ho2;exact aZ (⟨v57,(Option.some.inj h).symm,hs.sub (.of rfl) (.of rfl) rfl rfl⟩)⟩)
      ·rintro _ rfl
       try dsimp only
       refine .sl 4 rfl rfl rfl ?_
       refine .kj 5 rfl rfl rfl ?_
       refine .al (.mv rfl<|.mv rfl<|.aq rfl<|.aq rfl<|.aq rfl<|.nil) rfl ?_
       refine .rJ 4 (.own 59) rfl .sl ?_
       refine .kJ 4 rfl rfl rfl ?_
       refine .rJ 5 (.own 2000005) rfl .sl ?_
       refine .vW 5 rfl rfl rfl rfl rfl ?_
       cases h
       refine .aH (fun _ _ hb=>hb) rfl (.cons (.tmp rfl) (.cons (.tmp rfl) (.cons (.tmp rfl) .nil))) (.refl _) trivial trivial
end
end Go.Am
namespace Go.Am
theorem vM{σ ρ:Type}{body:Int×σ->Option (St (Int×σ) ρ)}(a n:Nat)(F:Nat->σ)(r:ρ)(ha:a<=n)(hb:∀i,a<=i->i<n->body ((i:Int),F i)=some (.next (((i+1:Nat):Int),F (i+1))))(he:body ((n:Int),F n)=some (.done r)):Loop body ((a:Int),F a)=some r:=by
 obtain⟨r',hr,rfl⟩:=bI (body:=body) ((a:Int),F a) (fun s=>∃i:Nat,a<=i/\i<=n/\s=((i:Int),F i)) (fun s=>(n-s.1).toNat) (fun r'=>r'=r) ⟨a,Nat.le_refl _,ha,rfl⟩ (by
  rintro s ⟨i,hai,hi,rfl⟩
  by_cases hlt:i<n
  ·left
   exact⟨_,hb i hai hlt,⟨i+1,by omega,hlt,rfl⟩,by simp only;omega⟩
  ·right
   have:i=n:=by omega
   subst this
   exact⟨_,he,rfl⟩)
 exact hr
def pc(f:Nat->Nat->Rat)(B:Nat):Prop:=∀i j,sz (f i j)<=B
theorem pV{n m:Nat}{f:Nat->Nat->Rat}{a:Nat}{g:Nat->Rat}:(bh n m f).set a ((List.range m).map g)=bh n m (fun i j=>if i=a then g j else f i j):=by
 apply List.ext_getElem
 ·simp[bh]
 ·intro i h1 h2
  by_cases ha:i=a
  ·subst ha
   rw[List.getElem_set_self];simp[bh]
  ·rw[List.getElem_set_ne (Ne.symm ha)];simp[bh,ha]
def cZ(f:Nat->Nat->Rat)(a b:Nat)(i j:Nat):Rat:=if i=b then f a j else if i=a then f b j else f i j
theorem tc{n m:Nat}{f:Nat->Nat->Rat}{a b:Nat}:((bh n m f).set ((a:Int).toNat) ((List.range m).map (f b))).set ((b:Int).toNat) ((List.range m).map (f a))=bh n m (cZ f a b):=by
 rw[Int.toNat_natCast,Int.toNat_natCast,pV,pV]
 rfl
variable {n m:Nat} {f:Nat->Nat->Rat} {B:Nat}
theorem sj{row k:Nat}{c:Rat}(hrow:row<n)(hk:k<=m)(hm:m<=30)(hf:pc f B)(hc:sz c<=B)(hB:B<=1000000000):
  Loop (fun(s:Int×(List (List Rat)))=>dg (row:Int) (m:Int) c s.1 s.2) ((k:Int),bh n m f)=some (bh n m (fun i j=>if i=row/\k<=j then f row j*c else f i j)):=by
 have hL:=vM (body:=fun(s:Int×(List (List Rat)))=>dg (row:Int) (m:Int) c s.1 s.2) k m (fun q=>bh n m (fun i j=>if i=row/\k<=j/\j<q then f row j*c else f i j)) (bh n m (fun i j=>if i=row/\k<=j/\j<m then f row j*c else f i j)) hk (fun q hkq hq=>by
   unfold dg
   rw[if_pos (decide_eq_true (by omega)),fx hrow,Option.bind_some,Option.bind_some,jD hq,Option.bind_some]
   rw[if_neg (by omega)]
   have h1:=hf row q
   rw[q8 (show eC (f row q)from by unfold eC;omega) (show eC c from by unfold eC;omega),Option.bind_some,Option.bind_some,wg,dL hq (by omega)]
   rw[dY (g:=fun i j=>if i=row/\k<=j/\j<q+1 then f row j*c else f i j) (fun i j _ _=>by
    by_cases e1:i=row/\j=q
    ·rw[if_pos e1,if_pos (by omega),e1.2]
    ·rw[if_neg e1]
     by_cases e2:i=row/\k<=j/\j<q
     ·rw[if_pos e2,if_pos (by omega)]
     ·rw[if_neg e2,if_neg (by omega)])]) (by
   unfold dg
   rw[if_neg (by simp)])
 have e0:bh n m f=bh n m (fun i j=>if i=row/\k<=j/\j<k then f row j*c else f i j):=dY (fun i j _ _=>by rw[if_neg (by omega)])
 rw[e0]
 rw[hL]
 rw[dY (g:=fun i j=>if i=row/\k<=j then f row j*c else f i j) (fun i j _ hj=>by
  by_cases e2:i=row/\k<=j
  ·rw[if_pos e2,if_pos (by omega)]
  ·rw[if_neg e2,if_neg (by omega)])]
theorem As{row i0 k:Nat}{c:Rat}(hrow:row<n)(hi:i0<n)(hne:i0≠row)(hk:k<=m)(hm:m<=30)(hf:pc f B)(hc:sz c<=B)(hB:B<=1000000000):
  Loop (fun(s:Int×(List (List Rat)))=>cL (row:Int) (m:Int) (i0:Int) c s.1 s.2) ((k:Int),bh n m f)=some (bh n m (fun i j=>if i=i0/\k<=j then f i0 j-c*f row j else f i j)):=by
 have hL:=vM (body:=fun(s:Int×(List (List Rat)))=>cL (row:Int) (m:Int) (i0:Int) c s.1 s.2) k m (fun q=>bh n m (fun i j=>if i=i0/\k<=j/\j<q then f i0 j-c*f row j else f i j)) (bh n m (fun i j=>if i=i0/\k<=j/\j<m then f i0 j-c*f row j else f i j)) hk (fun q hkq hq=>by
   unfold cL
   rw[if_pos (decide_eq_true (by omega)),fx hi,Option.bind_some,Option.bind_some,jD hq,Option.bind_some,fx hrow,Option.bind_some,jD hq,Option.bind_some]
   rw[if_neg (by omega),if_neg (by omega)]
   have h1:=hf row q
   have h2:=hf i0 q
   have h3:=lZ c (f row q)
   rw[q8 (show eC c from by unfold eC;omega) (show eC (f row q)from by unfold eC;omega),Option.bind_some,Ab (show eC (f i0 q)from by unfold eC;omega) (show eC (c*f row q)from by unfold eC;omega),Option.bind_some,Option.bind_some,wg,dL hq (by omega)]
   rw[dY (g:=fun i j=>if i=i0/\k<=j/\j<q+1 then f i0 j-c*f row j else f i j) (fun i j _ _=>by
    by_cases e1:i=i0/\j=q
    ·rw[if_pos e1,if_pos (by omega),e1.2]
    ·rw[if_neg e1]
     by_cases e2:i=i0/\k<=j/\j<q
     ·rw[if_pos e2,if_pos (by omega)]
     ·rw[if_neg e2,if_neg (by omega)])]) (by
   unfold cL
   rw[if_neg (by simp)])
 have e0:bh n m f=bh n m (fun i j=>if i=i0/\k<=j/\j<k then f i0 j-c*f row j else f i j):=dY (fun i j _ _=>by rw[if_neg (by omega)])
 rw[e0]
 rw[hL]
 rw[dY (g:=fun i j=>if i=i0/\k<=j then f i0 j-c*f row j else f i j) (fun i j _ hj=>by
  by_cases e2:i=i0/\k<=j
  ·rw[if_pos e2,if_pos (by omega)]
  ·rw[if_neg e2,if_neg (by omega)])]
def kf(f:Nat->Nat->Rat)(row k k0:Nat)(i j:Nat):Rat:=if i≠row/\f i k≠0/\k0<=j then f i j-f i k*f row j else f i j
theorem ui{x:Rat}:(zN x !=0)=true↔x≠0:=by rw[bne_iff_ne,Ne,oW]
theorem yL{row k k0 j:Nat}:kf f row k k0 row j=f row j:=by unfold kf;rw[if_neg (by omega)]
def fC(f:Nat->Nat->Rat)(row k k0 i i' j:Nat):Rat:=if i'<i then kf f row k k0 i' j else f i' j
theorem zo{row k k0 i j:Nat}:fC f row k k0 i row j=f row j:=by unfold fC;split;exact yL;rfl
theorem nq{row k k0 i j:Nat}:fC f row k k0 i i j=f i j:=by unfold fC;rw[if_neg (by omega)]
theorem vx{row k k0:Nat}(hf:pc f B):pc (kf f row k k0) (3*B+1):=by
 intro i' j
 have a1:=hf i' j
 unfold kf
 split
 ·have b1:=qW (f i' j) (f i' k*f row j)
  have b2:=lZ (f i' k) (f row j)
  have b3:=hf i' k
  have b4:=hf row j
  omega
 ·omega
theorem Ai{row k k0 i:Nat}(hf:pc f B):pc (fC f row k k0 i) (3*B+1):=by
 intro i' j
 have a1:=hf i' j
 have a2:=vx (row:=row) (k:=k) (k0:=k0) hf i' j
 unfold fC
 split<;>omega
theorem lM{row k k0 i:Nat}(h:i=row\/f i k=0):bh n m (fC f row k k0 i)=bh n m (fC f row k k0 (i+1)):=dY (fun i' j _ _=>by
 unfold fC
 by_cases e:i'<i
 ·rw[if_pos e,if_pos (by omega)]
 ·rw[if_neg e]
  by_cases e2:i'=i
  ·subst e2
   rw[if_pos (by omega)]
   unfold kf
   rw[if_neg (by
    rintro⟨h1,h2,_⟩
    rcases h with h|h
    ·exact h1 h
    ·exact h2 h)]
  ·rw[if_neg (by omega)])
theorem th{row k k0 i:Nat}(hrow:row<n)(hi:i<n)(hk0:k0<=m)(hm:m<=30)(hf:pc f B)(hB:3*B+1<=1000000000)(h1:i≠row)(h2:f i k≠0):
  Loop (fun(s:Int×(List (List Rat)))=>cL (row:Int) (m:Int) (i:Int) (f i k) s.1 s.2) ((k0:Int),bh n m (fC f row k k0 i))=some (bh n m (fC f row k k0 (i+1))):=by
 rw[As hrow hi h1 hk0 hm (Ai hf) (Nat.le_trans (hf i k) (by omega)) hB]
 rw[dY (g:=fC f row k k0 (i+1)) (fun i' j _ _=>by
  rw[zo,nq]
  unfold fC
  by_cases e:i'=i/\k0<=j
  ·rw[if_pos e,e.1,if_pos (by omega)]
   unfold kf
   rw[if_pos ⟨h1,h2,e.2⟩]
  ·rw[if_neg e]
   by_cases e2:i'<i
   ·rw[if_pos e2,if_pos (by omega)]
   ·rw[if_neg e2]
    by_cases e3:i'=i
    ·subst e3
     rw[if_pos (by omega)]
     unfold kf
     rw[if_neg (by omega)]
    ·rw[if_neg (by omega)])]
theorem sP{row k k0:Nat}:bh n m (fC f row k k0 n)=bh n m (kf f row k k0):=dY (fun i' j h _=>by unfold fC;rw[if_pos h])
theorem elim_none{row k k0:Nat}:bh n m f=bh n m (fC f row k k0 0):=dY (fun i' j h _=>by unfold fC;rw[if_neg (by omega)])
theorem Ei{row k:Nat}{M0:List (List Rat)}(hM:M0.length=n)(hrow:row<n)(hk:k<m)(hm:m<=30)(hn:n<=30)(hf:pc f B)(hB:3*B+1<=1000000000):
  Loop (fun(s:Int×(List (List Rat)))=>cJ (row:Int) (k:Int) (m:Int) M0 s.1 s.2) (0,bh n m f)=some (bh n m (kf f row k k)):=by
 have hL:=lk (body:=fun(s:Int×(List (List Rat)))=>cJ (row:Int) (k:Int) (m:Int) M0 s.1 s.2) n (fun i=>bh n m (fC f row k k i)) (bh n m (fC f row k k n)) (fun i hi=>by
   unfold cJ
   rw[hM,if_pos (decide_eq_true (by omega)),fx hi,Option.bind_some,jD hk,Option.bind_some,nq]
   by_cases h1:i=row
   ·rw[if_neg (by simp[h1]),Option.bind_some,dL hi (by omega),lM (.inl h1)]
   ·rw[if_pos (by simp;omega),i_,Option.bind_some]
    by_cases h2:f i k=0
    ·rw[if_neg (by rw[ui];exact fun h=>h h2),Option.bind_some,dL hi (by omega),lM (.inr h2)]
    ·rw[if_pos (ui.2 h2),th hrow hi (by omega) hm hf hB h1 h2,Option.bind_some,Option.bind_some,dL hi (by omega)]) (by
   unfold cJ
   rw[hM,if_neg (by simp)])
 rw[elim_none (row:=row) (k:=k) (k0:=k)]
 have:Loop (fun(s:Int×(List (List Rat)))=>cJ (row:Int) (k:Int) (m:Int) M0 s.1 s.2) (0,bh n m (fC f row k k 0))=_:=hL
 rw[this,sP]
theorem EK{piv:List Int}{k:Nat}(hrow:piv.length<n)(hk:k<m)(hm:m<=30)(hn:n<=30)(hf:pc f B)(hB:3*B+1<=1000000000):
  Loop (fun(s:Int×(List (List Rat)))=>fj (m:Int) (k:Int) piv s.1 s.2) (0,bh n m f)=some (bh n m (kf f piv.length k 0)):=by
 have hL:=lk (body:=fun(s:Int×(List (List Rat)))=>fj (m:Int) (k:Int) piv s.1 s.2) n (fun i=>bh n m (fC f piv.length k 0 i)) (bh n m (fC f piv.length k 0 n)) (fun i hi=>by
   unfold fj
   rw[cn,if_pos (decide_eq_true (by omega)),fx hi,Option.bind_some,jD hk,Option.bind_some,nq]
   by_cases h1:i=piv.length
   ·rw[if_pos (by simp[h1]),Option.bind_some,dL hi (by omega),lM (.inl h1)]
   ·rw[if_neg (by simp;omega),i_,Option.bind_some]
    by_cases h2:f i k=0
    ·rw[if_pos (by rw[beq_iff_eq,oW];exact h2),Option.bind_some,dL hi (by omega),lM (.inr h2)]
    ·rw[if_neg (by rw[beq_iff_eq,oW];exact h2)]
     have:=th (row:=piv.length) (k:=k) (k0:=0) hrow hi (Nat.zero_le _) hm hf hB h1 h2
     have e:Loop (fun(s:Int×(List (List Rat)))=>kr (m:Int) piv (i:Int) (f i k) s.1 s.2) (0,bh n m (fC f piv.length k 0 i))=some (bh n m (fC f piv.length k 0 (i+1))):=this
     rw[e,Option.bind_some,Option.bind_some,dL hi (by omega)]) (by
   unfold fj
   rw[cn,if_neg (by simp)])
 rw[elim_none (row:=piv.length) (k:=k) (k0:=0)]
 have:Loop (fun(s:Int×(List (List Rat)))=>fj (m:Int) (k:Int) piv s.1 s.2) (0,bh n m (fC f piv.length k 0 0))=_:=hL
 rw[this,sP]
end Go.Am
namespace Go.Am
variable {n m:Nat} {f:Nat->Nat->Rat} {B:Nat}
def fP(f:Nat->Nat->Rat)(k n i:Nat):Nat:=if i<n then(if f i k=0 then fP f k n (i+1)else i)else i
termination_by n-i
theorem wo{k:Nat}:∀d i,n-i=d->i<=fP f k n i
 |0,i,h=>by unfold fP;rw[if_neg (by omega)];omega
 |d+1,i,h=>by
  unfold fP
  split
  ·split
   ·have:=wo (k:=k) d (i+1) (by omega);omega
   ·omega
  ·omega
theorem uZ{k:Nat}:∀d i,n-i=d->fP f k n i<n->f (fP f k n i) k≠0
 |0,i,h,hl=>by
  unfold fP at hl|-
  rw[if_neg (by omega)]at hl
  omega
 |d+1,i,h,hl=>by
  unfold fP at hl|-
  by_cases h1:i<n
  ·rw[if_pos h1]at hl|-
   by_cases h2:f i k=0
   ·rw[if_pos h2]at hl|-
    exact uZ d (i+1) (by omega) hl
   ·rw[if_neg h2];exact h2
  ·omega
theorem sY{k:Nat}:∀d i,n-i=d->¬fP f k n i<n->∀j,i<=j->j<n->f j k=0
 |0,i,h,_,j,h1,h2=>by omega
 |d+1,i,h,hl,j,h1,h2=>by
  unfold fP at hl
  rw[if_pos (by omega)]at hl
  by_cases h3:f i k=0
  ·rw[if_pos h3]at hl
   by_cases e:j=i
   ·subst e;exact h3
   ·exact sY d (i+1) (by omega) hl j (by omega) h2
  ·rw[if_neg h3]at hl;omega
theorem vt{k:Nat}:∀d i,n-i=d->i<=n->fP f k n i<=n
 |0,i,h,hi=>by unfold fP;rw[if_neg (by omega)];omega
 |d+1,i,h,hi=>by
  unfold fP
  split
  ·split
   ·exact vt d (i+1) (by omega) (by omega)
   ·omega
  ·omega
def fv(f:Nat->Nat->Rat)(row:Nat)(c:Rat)(k0 i j:Nat):Rat:=if i=row/\k0<=j then f row j*c else f i j
def nh(f:Nat->Nat->Rat)(row k at' k0:Nat):Nat->Nat->Rat:=kf (fv (cZ f row at') row (1/cZ f row at' row k) k0) row k k0
theorem kP{a b:Nat}(hf:pc f B):pc (cZ f a b) B:=by
 intro i j
 unfold cZ
 split
 ·exact hf _ _
 ·split<;>exact hf _ _
theorem pz{row k0:Nat}{c:Rat}(hf:pc f B)(hc:sz c<=B+1):pc (fv f row c k0) (2*B+1):=by
 intro i j
 have:=hf i j
 unfold fv
 split
 ·have h1:=lZ (f row j) c
  have h2:=hf row j
  omega
 ·omega
theorem xf{x:Rat}(h:sz x<=B):sz (1/x)<=B+1:=by
 have h1:=qQ 1 x
 have h2:sz (1:Rat)<=1:=by decide+kernel
 omega
theorem Aq{row k at' k0:Nat}(hf:pc f B):pc (nh f row k at' k0) (6*B+4):=by
 have h1:=kP (a:=row) (b:=at') hf
 have h2:=vx (row:=row) (k:=k) (k0:=k0) (pz (row:=row) (k0:=k0) h1 (xf (h1 row k)))
 intro i j
 have:=h2 i j
 unfold nh
 omega
theorem wS:gz 1=some 1:=Fs
theorem s_{k i:Nat}(h:i<n):fP f k n i=if f i k=0 then fP f k n (i+1)else i:=by
 conv=>lhs;unfold fP
 rw[if_pos h]
theorem tg{k i:Nat}(h:¬i<n):fP f k n i=i:=by unfold fP;rw[if_neg h]
theorem BE{k:Nat}(hk:k<m)(hn:n<=30):∀d i,n-i=d->i<=n->Loop (fun(s:Int)=>dT (k:Int) (bh n m f) s) (i:Int)=some ((fP f k n i:Nat):Int)
 |d,i,h,hi=>by
  by_cases hlt:i<n
  ·rw[s_ hlt]
   have hb:dT (k:Int) (bh n m f) (i:Int)=if f i k=0 then some (.next ((i+1:Nat):Int))else some (.done (i:Int)):=by
    unfold dT
    rw[cn,if_pos (decide_eq_true (by omega)),fx hlt,Option.bind_some,jD hk,Option.bind_some,i_,Option.bind_some]
    by_cases h0:f i k=0
    ·rw[if_pos h0,if_pos (by rw[beq_iff_eq,oW];exact h0),dL hlt (by omega)]
    ·rw[if_neg h0,if_neg (by rw[beq_iff_eq,oW];exact h0)]
   by_cases h0:f i k=0
   ·rw[if_pos h0]at hb|-
    rw[iT (body:=fun(s:Int)=>dT (k:Int) (bh n m f) s) hb]
    cases d with
    |zero=>omega
    |succ d=>exact BE hk hn d (i+1) (by omega) (by omega)
   ·rw[if_neg h0]at hb|-
    exact fI (body:=fun(s:Int)=>dT (k:Int) (bh n m f) s) hb
  ·rw[tg hlt]
   refine fI (body:=fun(s:Int)=>dT (k:Int) (bh n m f) s) ?_
   unfold dT
   rw[cn,if_neg (by rw[decide_eq_true_eq];omega)]
theorem Ch{row k:Nat}(hrow:row<n)(hk:k<m)(hm:m<=30)(hn:n<=30)(hf:pc f B)(hB:6*B+4<=1000000000)(hp:f row k≠0):
  gb (row:Int) (k:Int) (bh n m f) (m:Int)=some (bh n m (kf (fv f row (1/f row k) k) row k k)):=by
 unfold gb
 have h1:=hf row k
 rw[wS,Option.bind_some,fx hrow,Option.bind_some,jD hk,Option.bind_some,sG hp (show eC 1 by decide+kernel) (show eC (f row k)by unfold eC;omega),Option.bind_some]
 have hi:=xf h1
 have hs:pc f (B+1):=fun i j=>Nat.le_trans (hf i j) (by omega)
 rw[sj hrow (by omega) hm hs hi (by omega),Option.bind_some,Option.bind_some]
 have e:(bh n m fun i j=>if i=row/\k<=j then f row j*(1/f row k)else f i j)=bh n m (fv f row (1/f row k) k):=rfl
 rw[e,Ei (by rw[cn]) hrow hk hm hn (pz (k0:=k) hf hi) (by omega),Option.bind_some]
def nX(f:Nat->Nat->Rat)(n row k:Nat):Prop:=∀i j,row<=i->i<n->j<k->f i j=0
theorem pD{row k at':Nat}(hz:nX f n row k)(h1:row<=at')(h2:at'<n){i j:Nat}(hi:row<=i)(dt:i<n)(hj:j<k):cZ f row at' i j=0:=by
 unfold cZ
 split
 ·exact hz row j (Nat.le_refl _) (by omega) hj
 ·split
  ·exact hz at' j h1 h2 hj
  ·exact hz i j hi dt hj
theorem yR{row k at':Nat}(hz:nX f n row k)(h1:row<=at')(h2:at'<n):bh n m (nh f row k at' k)=bh n m (nh f row k at' 0):=dY (fun i j hi _=>by
 have z:∀j,j<k->cZ f row at' row j=0:=fun j hj=>pD hz h1 h2 (Nat.le_refl _) (by omega) hj
 have hs:∀i j,fv (cZ f row at') row (1/cZ f row at' row k) k i j=fv (cZ f row at') row (1/cZ f row at' row k) 0 i j:=by
  intro i j
  unfold fv
  by_cases e:i=row
  ·by_cases e2:k<=j
   ·rw[if_pos ⟨e,e2⟩,if_pos ⟨e,Nat.zero_le _⟩]
   ·rw[if_neg (by omega),if_pos ⟨e,Nat.zero_le _⟩,e,z j (by omega)];grind
  ·rw[if_neg (by omega),if_neg (by omega)]
 have hrow:∀j,j<k->fv (cZ f row at') row (1/cZ f row at' row k) 0 row j=0:=by
  intro j hj
  unfold fv
  rw[if_pos ⟨rfl,Nat.zero_le _⟩,z j hj];grind
 unfold nh kf
 rw[hs,hs,hs]
 by_cases e:i≠row/\fv (cZ f row at') row (1/cZ f row at' row k) 0 i k≠0
 ·by_cases e2:k<=j
  ·rw[if_pos ⟨e.1,e.2,e2⟩,if_pos ⟨e.1,e.2,Nat.zero_le _⟩]
  ·rw[if_neg (by omega),if_pos ⟨e.1,e.2,Nat.zero_le _⟩,hrow j (by omega)];grind
 ·rw[if_neg (fun h=>e ⟨h.1,h.2.1⟩),if_neg (fun h=>e ⟨h.1,h.2.1⟩)])
theorem wY{row k at':Nat}(hz:nX f n row k)(h1:row<=at')(h2:at'<n)(hp:f at' k≠0):nX (nh f row k at' 0) n (row+1) (k+1):=by
 intro i j hi dt hj
 have hne:i≠row:=by omega
 have hpp:cZ f row at' row k=f at' k:=by
  unfold cZ
  by_cases e:row=at'
  ·rw[if_pos e,e]
  ·rw[if_neg e,if_pos rfl]
 have hrk:fv (cZ f row at') row (1/cZ f row at' row k) 0 row k=1:=by
  unfold fv
  rw[if_pos ⟨rfl,Nat.zero_le _⟩,hpp]
  have:=Rat.div_mul_cancel (a:=1) hp
  grind
 have hsi:∀j,fv (cZ f row at') row (1/cZ f row at' row k) 0 i j=cZ f row at' i j:=fun j=>by unfold fv;rw[if_neg (fun h=>hne h.1)]
 unfold nh kf
 rw[hsi,hsi]
 by_cases e:j<k
 ·have z1:cZ f row at' i j=0:=pD hz h1 h2 (by omega) dt e
  have z2:fv (cZ f row at') row (1/cZ f row at' row k) 0 row j=0:=by
   unfold fv
   rw[if_pos ⟨rfl,Nat.zero_le _⟩,pD hz h1 h2 (Nat.le_refl _) (by omega) e];grind
  rw[z1,z2]
  split<;>grind
 ·have:j=k:=by omega
  subst this
  rw[hrk]
  by_cases e3:cZ f row at' i j=0
  ·rw[if_neg (fun h=>h.2.1 e3),e3]
  ·rw[if_pos ⟨hne,e3,Nat.zero_le _⟩];grind
theorem wE{row k:Nat}(hz:nX f n row k)(h:∀i,row<=i->i<n->f i k=0):nX f n row (k+1):=by
 intro i j hi dt hj
 by_cases e:j<k
 ·exact hz i j hi dt e
 ·have:j=k:=by omega
  subst this;exact h i hi dt
end Go.Am
namespace Go.Am
variable {n m:Nat}
theorem At{f:Nat->Nat->Rat}{B:Nat}{piv:List Int}{k:Nat}(hk:k<m)(hm:m<=30)(hn:n<=30)(hrow:piv.length<n)(hf:pc f B)(hB:6*B+4<=1000000000):∀d i,n-i=d->piv.length<=i->i<=n->
  Loop (fun(s:Int)=>cf (m:Int) (k:Int) (bh n m f) piv s) (i:Int)=some (if fP f k n i<n then(bh n m (nh f piv.length k (fP f k n i) k),piv++[(k:Int)])else(bh n m f,piv))
 |d,i,h,hri,hi=>by
  by_cases hlt:i<n
  ·rw[s_ hlt]
   by_cases h0:f i k=0
   ·have hb:cf (m:Int) (k:Int) (bh n m f) piv (i:Int)=some (.next ((i+1:Nat):Int)):=by
     unfold cf
     rw[cn,if_pos (decide_eq_true (by omega)),fx hlt,Option.bind_some,jD hk,Option.bind_some,i_,Option.bind_some,if_neg (by rw[ui];exact fun h=>h h0),dL hlt (by omega)]
    rw[if_pos h0,iT (body:=fun(s:Int)=>cf (m:Int) (k:Int) (bh n m f) piv s) hb]
    cases d with
    |zero=>omega
    |succ d=>exact At hk hm hn hrow hf hB d (i+1) (by omega) (by omega) (by omega)
   ·rw[if_neg h0,if_pos hlt]
    refine fI (body:=fun(s:Int)=>cf (m:Int) (k:Int) (bh n m f) piv s) ?_
    have hp:cZ f piv.length i piv.length k≠0:=by
     unfold cZ
     by_cases e:piv.length=i
     ·rw[if_pos e,e];exact h0
     ·rw[if_neg e,if_pos rfl];exact h0
    unfold cf
    rw[cn,if_pos (decide_eq_true (by omega)),fx hlt,Option.bind_some,jD hk,Option.bind_some,i_,Option.bind_some,if_pos (ui.2 h0),Option.bind_some,fx hrow,Option.bind_some,Option.bind_some,Option.bind_some]
    rw[tc (a:=piv.length) (b:=i),Ch hrow hk hm hn (kP hf) hB hp,Option.bind_some,aQ (by simp only[List.length_singleton];omega)]
    rfl
  ·rw[tg hlt,if_neg hlt]
   refine fI (body:=fun(s:Int)=>cf (m:Int) (k:Int) (bh n m f) piv s) ?_
   unfold cf
   rw[cn,if_neg (by rw[decide_eq_true_eq];omega)]
structure FY(n m:Nat)(g:Nat->Nat->Rat)(piv:List Int):Prop where
 len:piv.length<=n
 sz:pc g (300*8^n)
 GX:∀p∈piv,0<=p/\p<(m:Int)
theorem Du{a b:Nat}(h:a<=b):300*8^a<=300*8^b:=Nat.mul_le_mul_left _ (Nat.pow_le_pow_right (by decide) h)
theorem mB(hm:m<=30)(hn:n<=6):∀d k (f:Nat->Nat->Rat) (piv:List Int),m-k=d->k<=m->piv.length<=n->nX f n piv.length k->pc f (300*8^piv.length)->(∀p∈piv,0<=p/\p<(m:Int))->
  ∃g pv,Loop (fun(s:Int×(List (List Rat))×(List Int))=>bz (m:Int) s.1 s.2.1 s.2.2) ((k:Int),bh n m f,piv)=some (pv,bh n m g)/\
   Loop (fun(s:Int×(List (List Rat))×(List Int))=>ca (m:Int) s.1 s.2.1 s.2.2) ((k:Int),bh n m f,piv)=some (bh n m g,pv)/\FY n m g pv
 |d,k,f,piv,h,hk,hp,hz,hf,hr=>by
  have fin:FY n m f piv:=⟨hp,fun i j=>Nat.le_trans (hf i j) (Du hp),hr⟩
  by_cases hlt:k<m
  ·by_cases hpl:piv.length<n
   ·have hB:6*(300*8^piv.length)+4<=1000000000:=by
     have:300*8^piv.length<=300*8^5:=Du (by omega)
     have e:(300:Nat)*8^5=9830400:=by decide
     omega
    have hnext:6*(300*8^piv.length)+4<=300*8^(piv.length+1):=by
     rw[Nat.pow_succ]
     have:0<8^piv.length:=Nat.pow_pos (by decide)
     omega
    have he:=At (f:=f) (piv:=piv) hlt hm (by omega) hpl hf hB (n-piv.length) piv.length rfl (Nat.le_refl _) (by omega)
    have hfr:=BE (f:=f) hlt (show n<=30 by omega) (n-piv.length) piv.length rfl (by omega)
    have hge:=wo (f:=f) (k:=k) (n:=n) (n-piv.length) piv.length rfl
    by_cases hat:fP f k n piv.length<n
    ·have hne:=uZ (f:=f) (k:=k) (n:=n) (n-piv.length) piv.length rfl hat
     generalize fP f k n piv.length=at' at*
     have hsp:cZ f piv.length at' piv.length k≠0:=by
      unfold cZ
      by_cases e:piv.length=at'
      ·rw[if_pos e,e];exact hne
      ·rw[if_neg e,if_pos rfl];exact hne
     rw[if_pos hat]at he
     have hb1:bz (m:Int) (k:Int) (bh n m f) piv=some (.next (((k+1:Nat):Int),bh n m (nh f piv.length k at' 0),piv++[(k:Int)])):=by
      unfold bz
      rw[if_pos (decide_eq_true (by omega)),cn,if_pos (decide_eq_true (by omega)),he,Option.bind_some,Option.bind_some,dL hlt (by omega),yR hz hge hat]
     have hb2:ca (m:Int) (k:Int) (bh n m f) piv=some (.next (((k+1:Nat):Int),bh n m (nh f piv.length k at' 0),piv++[(k:Int)])):=by
      have hi:=xf (kP (a:=piv.length) (b:=at') hf piv.length k)
      have hs:pc (cZ f piv.length at') (300*8^piv.length+1):=fun i j=>Nat.le_trans (kP (a:=piv.length) (b:=at') hf i j) (by omega)
      have hsc:=sj (n:=n) (m:=m) (f:=cZ f piv.length at') (row:=piv.length) (k:=0) (c:=1/cZ f piv.length at' piv.length k) hpl (Nat.zero_le _) hm hs hi (by omega)
      have hel:=EK (n:=n) (m:=m) (f:=fv (cZ f piv.length at') piv.length (1/cZ f piv.length at' piv.length k) 0) (piv:=piv) (k:=k) hpl hlt hm (by omega) (pz (row:=piv.length) (k0:=0) (kP (a:=piv.length) (b:=at') hf) hi) (by omega)
      have q1:eC (cZ f piv.length at' piv.length k):=by
       have:=kP (a:=piv.length) (b:=at') hf piv.length k
       unfold eC;omega
      unfold ca
      rw[if_pos (decide_eq_true (by omega)),cn,if_pos (decide_eq_true (by omega)),hfr,Option.bind_some,if_neg (by simp;omega),fx hat,Option.bind_some,fx hpl,Option.bind_some,Option.bind_some,Option.bind_some,wS,Option.bind_some]
      rw[tc (a:=piv.length) (b:=at'),fx hpl,Option.bind_some,jD hlt,Option.bind_some,sG hsp (show eC 1 by decide+kernel) q1,Option.bind_some]
      have e1:Loop (fun(s:Int×(List (List Rat)))=>kl (m:Int) piv (1/cZ f piv.length at' piv.length k) s.1 s.2) (0,bh n m (cZ f piv.length at'))=some (bh n m (fv (cZ f piv.length at') piv.length (1/cZ f piv.length at' piv.length k) 0)):=hsc
      rw[e1,Option.bind_some,Option.bind_some,hel,Option.bind_some,Option.bind_some,aQ (by simp only[List.length_singleton];omega),Option.bind_some,dL hlt (by omega)]
      rfl
     rw[iT (body:=fun(s:Int×(List (List Rat))×(List Int))=>bz (m:Int) s.1 s.2.1 s.2.2) hb1,iT (body:=fun(s:Int×(List (List Rat))×(List Int))=>ca (m:Int) s.1 s.2.1 s.2.2) hb2]
     have hlen:(piv++[(k:Int)]).length=piv.length+1:=by simp
     cases d with
     |zero=>omega
     |succ d=>
      refine mB hm hn d (k+1) _ _ (by omega) (by omega) (by rw[hlen];omega) (by rw[hlen];exact wY hz hge hat hne) (by
       rw[hlen]
       exact fun i j=>Nat.le_trans (Aq hf i j) hnext) (fun p hpm=>?_)
      rcases List.mem_append.1 hpm with h|h
      ·exact hr p h
      ·rw[List.mem_singleton]at h
       omega
    ·have hall:=sY (f:=f) (k:=k) (n:=n) (n-piv.length) piv.length rfl hat
     have hle:=vt (f:=f) (k:=k) (n:=n) (n-piv.length) piv.length rfl (by omega)
     have hnn:fP f k n piv.length=n:=by omega
     rw[if_neg hat]at he
     rw[hnn]at hfr
     have hb1:bz (m:Int) (k:Int) (bh n m f) piv=some (.next (((k+1:Nat):Int),bh n m f,piv)):=by
      unfold bz
      rw[if_pos (decide_eq_true (by omega)),cn,if_pos (decide_eq_true (by omega)),he,Option.bind_some,Option.bind_some,dL hlt (by omega)]
     have hb2:ca (m:Int) (k:Int) (bh n m f) piv=some (.next (((k+1:Nat):Int),bh n m f,piv)):=by
      unfold ca
      rw[if_pos (decide_eq_true (by omega)),cn,if_pos (decide_eq_true (by omega)),hfr,Option.bind_some,if_pos (by simp),Option.bind_some,dL hlt (by omega)]
     rw[iT (body:=fun(s:Int×(List (List Rat))×(List Int))=>bz (m:Int) s.1 s.2.1 s.2.2) hb1,iT (body:=fun(s:Int×(List (List Rat))×(List Int))=>ca (m:Int) s.1 s.2.1 s.2.2) hb2]
     cases d with
     |zero=>omega
     |succ d=>exact mB hm hn d (k+1) _ _ (by omega) (by omega) hp (wE hz hall) hf hr
   ·refine⟨f,piv,fI (body:=fun(s:Int×(List (List Rat))×(List Int))=>bz (m:Int) s.1 s.2.1 s.2.2) ?_,fI (body:=fun(s:Int×(List (List Rat))×(List Int))=>ca (m:Int) s.1 s.2.1 s.2.2) ?_,fin⟩
    ·show bz (m:Int) (k:Int) (bh n m f) piv=_
     unfold bz
     rw[if_pos (decide_eq_true (by omega)),cn,if_neg (by rw[decide_eq_true_eq];omega)]
    ·show ca (m:Int) (k:Int) (bh n m f) piv=_
     unfold ca
     rw[if_pos (decide_eq_true (by omega)),cn,if_neg (by rw[decide_eq_true_eq];omega)]
  ·refine⟨f,piv,fI (body:=fun(s:Int×(List (List Rat))×(List Int))=>bz (m:Int) s.1 s.2.1 s.2.2) ?_,fI (body:=fun(s:Int×(List (List Rat))×(List Int))=>ca (m:Int) s.1 s.2.1 s.2.2) ?_,fin⟩
   ·show bz (m:Int) (k:Int) (bh n m f) piv=_
    unfold bz
    rw[if_neg (by rw[decide_eq_true_eq];omega)]
   ·show ca (m:Int) (k:Int) (bh n m f) piv=_
    unfold ca
    rw[if_neg (by rw[decide_eq_true_eq];omega)]
end Go.Am
namespace Go.Am
theorem zd(M:List (List Rat))(hl:M.length<=30)(hr:∀r∈M,r.length<=30):ir M=some M:=by
 unfold ir kn
 rw[aQ (by omega),Option.bind_some]
 have hL:=lk (body:=fun(s:Int×(List (List Rat))×(List (List Rat)))=>dH M s.1 s.2.1 s.2.2) M.length (fun i=>(M.drop i,M.take i)) ([],M) (fun i hi=>by
  unfold dH
  have ht:(M.take i).length=i:=by rw[List.length_take];omega
  rw[if_pos (decide_eq_true (by simp;omega)),aQ (by rw[ht]),List.drop_eq_getElem_cons hi]
  have e0:ix (M[i]::M.drop (i+1)) 0=some M[i]:=rfl
  rw[e0,Option.bind_some]
  unfold kn
  rw[aQ (by have:=hr _ (List.getElem_mem hi);omega),Option.bind_some,dL hi (by omega),List.take_succ_eq_append_getElem hi]
  rfl) (by
  unfold dH
  rw[if_neg (by simp),List.drop_length,List.take_length])
 have:Loop (fun(s:Int×(List (List Rat))×(List (List Rat)))=>dH M s.1 s.2.1 s.2.2) (0,M,([]:List (List Rat)))=_:=hL
 rw[this,Option.bind_some,Option.bind_some]
 exact aQ rfl
theorem zF(M:List (List Rat))(hl:M.length<=30)(hr:∀r∈M,r.length<=30):ki M=some M:=by
 unfold ki
 have hL:=lk (body:=fun(s:Int×(List (List Rat)))=>eR M s.1 s.2) M.length (fun i=>M.take i) M (fun i hi=>by
  unfold eR
  have ht:(M.take i).length=i:=by rw[List.length_take];omega
  rw[if_pos (decide_eq_true (by omega)),et hi,Option.bind_some,aQ (by have:=hr _ (List.getElem_mem hi);omega),aQ (by rw[ht];omega),dL hi (by omega),List.take_succ_eq_append_getElem hi]) (by
  unfold eR
  rw[if_neg (by simp),List.take_length])
 have:Loop (fun(s:Int×(List (List Rat)))=>eR M s.1 s.2) (0,([]:List (List Rat)))=_:=hL
 rw[this,Option.bind_some,Option.bind_some]
theorem xj{n m:Nat}{f:Nat->Nat->Rat}:right (bh n m f)=true:=by
 refine rh (fun i hi=>?_)
 have h0:0<(bh n m f).length:=by omega
 rw[uY h0]
 simp[bh]
theorem yK{n m:Nat}{f:Nat->Nat->Rat}(h:0<n):cc (bh n m f)=m:=by
 rw[uY (by rw[cn];exact h)]
 simp[bh]
theorem tj(n m:Nat)(f:Nat->Nat->Rat)(hn:n<=6)(hm:m<=30)(h0:n=0->m=0)(hf:pc f 300):
  ∃g pv,gi (bh n m f)=some (bh n m g,pv)/\j0 (bh n m f)=some (bh n m g,pv)/\FY n m g pv:=by
 have hc:cc (bh n m f)=m:=by
  by_cases h:n=0
  ·subst h
   rw[h0 rfl];rfl
  ·exact yK (by omega)
 obtain⟨g,pv,h1,h2,h3⟩:=mB (n:=n) (m:=m) hm hn m 0 f [] rfl (Nat.zero_le _) (Nat.zero_le _) (fun i j _ _ hj=>by omega) (by simpa using hf) (fun p hp=>by cases hp)
 refine⟨g,pv,?_,?_,h3⟩
 ·unfold gi
  rw[mN _ (by rw[cn];omega),Option.bind_some,hc]
  have:Loop (fun(s:Int×(List (List Rat))×(List Int))=>bz (m:Int) s.1 s.2.1 s.2.2) (0,bh n m f,([]:List Int))=_:=h1
  simp only
  rw[this];rfl
 ·unfold j0
  rw[zF _ (by rw[cn];omega) (fun r hr=>by rw[tA hr];omega),Option.bind_some,kZ _ (by rw[cn];omega),xj,if_pos rfl,Option.bind_some,hc]
  have:Loop (fun(s:Int×(List (List Rat))×(List Int))=>ca (m:Int) s.1 s.2.1 s.2.2) (0,bh n m f,([]:List Int))=_:=h2
  simp only
  rw[this];rfl
theorem BW(pv:List Int)(x:Int)(hl:pv.length<=30):∃r,mV pv x=some r/\(r>=0↔x∈pv):=by
 obtain⟨r,hr,hp⟩:=bI (body:=fun(s:Int)=>ke pv x s) 0 (fun s=>∃i:Nat,i<=pv.length/\s=(i:Int)/\∀k (hk:k<pv.length),k<i->pv[k]≠x) (fun s=>(pv.length-s).toNat)
  (fun r=>(x∈pv/\∃j:Int,0<=j/\r=Ex.ret j)\/(x∉pv/\r=Ex.da ())) ⟨0,Nat.zero_le _,rfl,fun k _ hk=>by omega⟩ (by
  rintro s ⟨i,hi,rfl,hall⟩
  unfold ke
  by_cases hlt:i<pv.length
  ·rw[if_pos (decide_eq_true (by omega)),et hlt,Option.bind_some]
   by_cases hq:pv[i]=x
   ·right
    rw[if_pos (by simpa using hq)]
    exact⟨_,rfl,.inl ⟨hq▸List.getElem_mem hlt,_,by omega,rfl⟩⟩
   ·left
    rw[if_neg (by simpa using hq),dL hlt (by omega)]
    refine⟨_,rfl,⟨i+1,hlt,rfl,fun k hk hki=>?_⟩,by omega⟩
    by_cases e:k=i
    ·subst e;exact hq
    ·exact hall k hk (by omega)
  ·right
   rw[if_neg (by rw[decide_eq_true_eq];omega)]
   refine⟨_,rfl,.inr ⟨fun hx=>?_,rfl⟩⟩
   obtain⟨k,hk,e⟩:=List.getElem_of_mem hx
   exact hall k hk (by omega) e)
 unfold mV
 rw[hr]
 rcases hp with⟨h1,j,hj,rfl⟩|⟨h1,rfl⟩
 ·exact⟨j,rfl,by simp[h1,hj]⟩
 ·exact⟨-1,rfl,by simp[h1]⟩
theorem mx(pv:List Int)(x:Int)(hl:pv.length<=30):ff pv x=some (decide (x∈pv)):=by
 obtain⟨r,hr,hp⟩:=bI (body:=fun(s:Int)=>fZ pv x s) 0 (fun s=>∃i:Nat,i<=pv.length/\s=(i:Int)/\∀k (hk:k<pv.length),k<i->pv[k]≠x) (fun s=>(pv.length-s).toNat)
  (fun r=>(x∈pv/\∃j:Int,0<=j/\r=Ex.ret j)\/(x∉pv/\r=Ex.da ())) ⟨0,Nat.zero_le _,rfl,fun k _ hk=>by omega⟩ (by
  rintro s ⟨i,hi,rfl,hall⟩
  unfold fZ
  by_cases hlt:i<pv.length
  ·rw[if_pos (decide_eq_true (by omega)),et hlt,Option.bind_some]
   by_cases hq:pv[i]=x
   ·right
    rw[if_pos (by simpa using hq.symm)]
    exact⟨_,rfl,.inl ⟨hq▸List.getElem_mem hlt,_,by omega,rfl⟩⟩
   ·left
    rw[if_neg (by simpa using fun h=>hq h.symm),dL hlt (by omega)]
    refine⟨_,rfl,⟨i+1,hlt,rfl,fun k hk hki=>?_⟩,by omega⟩
    by_cases e:k=i
    ·subst e;exact hq
    ·exact hall k hk (by omega)
  ·right
   rw[if_neg (by rw[decide_eq_true_eq];omega)]
   refine⟨_,rfl,.inr ⟨fun hx=>?_,rfl⟩⟩
   obtain⟨k,hk,e⟩:=List.getElem_of_mem hx
   exact hall k hk (by omega) e)
 unfold ff kx
 rw[hr]
 rcases hp with⟨h1,j,hj,rfl⟩|⟨h1,rfl⟩
 ·simp[h1,hj]
 ·simp[h1]
end Go.Am
namespace Go.Am
theorem Cv:dZ=jP:=rfl
theorem CJ:gX=jN:=rfl
def ue(l:List Rat)(k C:Nat):Prop:=l.length=k/\∀q∈l,sz q<=C
theorem tM{l:List Rat}{k C i:Nat}{v:Rat}(h:ue l k C)(hv:sz v<=C):ue (l.set i v) k C:=by
 refine⟨by rw[List.length_set];exact h.1,fun q hq=>?_⟩
 rcases List.mem_or_eq_of_mem_set hq with h'|rfl
 ·exact h.2 q h'
 ·exact hv
theorem xK{k C:Nat}(hC:1<=C):ue (List.replicate k (0:Rat)) k C:=⟨List.length_replicate,fun q hq=>by
 rw[List.eq_of_mem_replicate hq]
 exact Nat.le_trans (show sz (0:Rat)<=1 by decide) hC⟩
variable {n m k:Nat} {g:Nat->Nat->Rat} {pv:List Int}
theorem EF{C:Nat}(hn:n<=6)(hk:k<m\/pv=[])(hlen:pv.length<=n)(hg:pc g C)(hr:∀p∈pv,0<=p/\p<(k:Int))(x0:List Rat)(h0:ue x0 k C):
  ∃x,Loop (fun(s:Int×(List Rat))=>dZ (k:Int) (bh n m g) pv s.1 s.2) (0,x0)=some x/\ue x k C:=by
 refine bI (body:=fun(s:Int×(List Rat))=>dZ (k:Int) (bh n m g) pv s.1 s.2) (0,x0) (fun s=>∃i:Nat,i<=pv.length/\s.1=(i:Int)/\ue s.2 k C) (fun s=>(pv.length-s.1).toNat) (fun x=>ue x k C) ⟨0,Nat.zero_le _,rfl,h0⟩ ?_
 rintro⟨s,x⟩ ⟨i,hi,hs,hx⟩
 simp only at hs hx
 subst hs
 simp only
 unfold dZ
 by_cases hlt:i<pv.length
 ·left
  have hkm:k<m:=by
   rcases hk with h|h
   ·exact h
   ·subst h;simp at hlt
  obtain⟨h1,h2⟩:=hr pv[i] (List.getElem_mem hlt)
  rw[if_pos (decide_eq_true (by omega)),et hlt,Option.bind_some,fx (show i<n by omega),Option.bind_some,jD hkm,Option.bind_some,n6 pv[i].toNat (by omega) (show pv[i].toNat<x.length by rw[hx.1];omega),Option.bind_some,dL hlt (by omega)]
  exact⟨_,rfl,⟨i+1,hlt,rfl,tM hx (hg i k)⟩,by simp only;omega⟩
 ·right
  rw[if_neg (by rw[decide_eq_true_eq];omega)]
  exact⟨_,rfl,hx⟩
theorem EJ{C c:Nat}(hn:n<=6)(hc:c<m\/pv=[])(hlen:pv.length<=n)(hg:pc g C)(hC:C<=400000000000)(hr:∀p∈pv,0<=p/\p<(k:Int))(x0:List Rat)(h0:ue x0 k C):
  ∃x,Loop (fun(s:Int×(List Rat))=>gX (bh n m g) pv (c:Int) s.1 s.2) (0,x0)=some x/\ue x k C:=by
 refine bI (body:=fun(s:Int×(List Rat))=>gX (bh n m g) pv (c:Int) s.1 s.2) (0,x0) (fun s=>∃i:Nat,i<=pv.length/\s.1=(i:Int)/\ue s.2 k C) (fun s=>(pv.length-s.1).toNat) (fun x=>ue x k C) ⟨0,Nat.zero_le _,rfl,h0⟩ ?_
 rintro⟨s,x⟩ ⟨i,hi,hs,hx⟩
 simp only at hs hx
 subst hs
 simp only
 unfold gX
 by_cases hlt:i<pv.length
 ·left
  have hkm:c<m:=by
   rcases hc with h|h
   ·exact h
   ·subst h;simp at hlt
  obtain⟨h1,h2⟩:=hr pv[i] (List.getElem_mem hlt)
  rw[if_pos (decide_eq_true (by omega)),et hlt,Option.bind_some,fx (show i<n by omega),Option.bind_some,jD hkm,Option.bind_some]
  have en:vP (g i c)=some (-(g i c)):=rfl
  rw[en,Option.bind_some,n6 pv[i].toNat (by omega) (show pv[i].toNat<x.length by rw[hx.1];omega),Option.bind_some,dL hlt (by omega)]
  exact⟨_,rfl,⟨i+1,hlt,rfl,tM hx (by rw[uw];exact hg i c)⟩,by simp only;omega⟩
 ·right
  rw[if_neg (by rw[decide_eq_true_eq];omega)]
  exact⟨_,rfl,hx⟩
theorem C0(hp:pv.length<=30)(hk:k<=30)(G:List (List Rat))(c:Int)(K:List (List Rat)):dv (k:Int) G pv c K=gm (k:Int) G pv c K:=by
 obtain⟨r,hr,hi⟩:=BW pv c hp
 unfold dv gm
 rw[mx pv c hp,hr,CJ]
 simp only[Option.bind_some]
 by_cases h:c∈pv
 ·rw[decide_eq_true h,decide_eq_true (hi.2 h)];rfl
 ·rw[decide_eq_false h,decide_eq_false (fun h'=>h (hi.1 h'))]
  rw[aQ (show(0:Int)<=(k:Int)/\(56:Int)*(k:Int)<=281474976710656/\((k:Int):Int)<=9223372036854775807 by omega),aQ (show(0:Int)<=(k:Int)/\(64:Int)*(k:Int)<=281474976710656/\((k:Int):Int)<=9223372036854775807 by omega)]
theorem AM{C:Nat}(hn:n<=6)(hk:k<=30)(hkm:k<=m)(hlen:pv.length<=n)(hg:pc g C)(hC:C<=400000000000)(hC1:1<=C)(hr:∀p∈pv,0<=p/\p<(k:Int))(hm:k<m\/pv=[]):
  ∃K,Loop (fun(s:Int×(List (List Rat)))=>dv (k:Int) (bh n m g) pv s.1 s.2) (0,([]:List (List Rat)))=some K/\K.length<=k/\∀r∈K,ue r k C:=by
 refine bI (body:=fun(s:Int×(List (List Rat)))=>dv (k:Int) (bh n m g) pv s.1 s.2) (0,([]:List (List Rat))) (fun s=>∃i:Nat,i<=k/\s.1=(i:Int)/\s.2.length<=i/\∀r∈s.2,ue r k C) (fun s=>(k-s.1).toNat) (fun K=>K.length<=k/\∀r∈K,ue r k C) ⟨0,Nat.zero_le _,rfl,Nat.zero_le _,fun r hr=>by cases hr⟩ ?_
 rintro⟨s,K⟩ ⟨i,hi,hs,hl,hK⟩
 simp only at hs hl hK
 subst hs
 simp only
 unfold dv
 by_cases hlt:i<k
 ·left
  rw[if_pos (decide_eq_true (by omega)),mx pv _ (by omega),Option.bind_some]
  by_cases hc:(i:Int)∈pv
  ·rw[if_pos (decide_eq_true hc),Option.bind_some,dL hlt (by omega)]
   exact⟨_,rfl,⟨i+1,hlt,rfl,by simp only;omega,hK⟩,by simp only;omega⟩
  ·rw[if_neg (by rw[decide_eq_true_eq];exact hc),aQ (show(0:Int)<=(k:Int)/\(56:Int)*(k:Int)<=281474976710656/\((k:Int):Int)<=9223372036854775807 by omega),wS,Option.bind_some]
   rw[et (show i<(List.replicate ((k:Int)).toNat (0:Rat)).length by simp;omega),Option.bind_some]
   have h0:ue ((List.replicate ((k:Int)).toNat (0:Rat)).set ((i:Int)).toNat 1) k C:=tM (by rw[Int.toNat_natCast];exact xK hC1) (Nat.le_trans (show sz (1:Rat)<=1 by decide+kernel) hC1)
   obtain⟨v,hv,hvb⟩:=EJ (m:=m) (k:=k) (c:=i) hn (hm.imp (fun h=>by omega) id) hlen hg hC hr _ h0
   rw[hv,Option.bind_some,Option.bind_some,aQ (by omega),Option.bind_some,dL hlt (by omega)]
   refine⟨_,rfl,⟨i+1,hlt,rfl,by simp only[List.length_append,List.length_singleton];omega,fun r hr=>?_⟩,by simp only;omega⟩
   rcases List.mem_append.1 hr with h|h
   ·exact hK r h
   ·rw[List.mem_singleton]at h
    subst h;exact hvb
 ·right
  rw[if_neg (by rw[decide_eq_true_eq];omega)]
  exact⟨_,rfl,by omega,hK⟩
end Go.Am
