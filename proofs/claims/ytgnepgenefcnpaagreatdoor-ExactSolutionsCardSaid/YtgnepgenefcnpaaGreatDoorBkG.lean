/- Part 7 of 7 of what the laws of layer 1 share: contracts of functions of the program, each for every argument of its description; no condition beyond it. -/
import Derived.Test.YtgnepgenefcnpaaGreatDoorBkF
set_option linter.unusedVariables false
set_option linter.unusedSimpArgs false
namespace Go.Am
set_option maxRecDepth 100000
open Go.RowKit Go.ChangeShapes Go.WideShapes Go.ChangeAt Go.Deep
abbrev EN:ak (Int×Int×Int):=ak.prod (ak.int .i64) (ak.prod (ak.int .i64) (ak.int .u8))
def ju:List (Int×Int×Int)->List Value
 |[]=>[]
 |x::l=>.int .i64 x.1::.int .i64 x.2.1::.int .u8 x.2.2::ju l
theorem o0:∀{l:List (Int×Int×Int)} {j:Nat} {u:Value},(ju l)[j]?=some u->∃(i:Nat) (x:Int×Int×Int),l[i]?=some x/\((j=i*3+0/\u=.int .i64 x.1)\/(j=i*3+1/\u=.int .i64 x.2.1)\/(j=i*3+2/\u=.int .u8 x.2.2))
 |[],j,u,h=>by simp[ju]at h
 |x::l,0,u,h=>by simp[ju]at h;exact⟨0,x,rfl,.inl ⟨rfl,h.symm⟩⟩
 |x::l,1,u,h=>by simp[ju]at h;exact⟨0,x,rfl,.inr (.inl ⟨rfl,h.symm⟩)⟩
 |x::l,2,u,h=>by simp[ju]at h;exact⟨0,x,rfl,.inr (.inr ⟨rfl,h.symm⟩)⟩
 |x::l,j+3,u,h=>by
  have h1:(ju l)[j]?=some u:=by simpa [ju]using h
  obtain⟨i,y,hy,hc⟩:=o0 h1;refine⟨i+1,y,by simpa using hy,?_⟩;rcases hc with⟨e,hu⟩|⟨e,hu⟩|⟨e,hu⟩
  ·exact .inl ⟨by omega,hu⟩
  ·exact .inr (.inl ⟨by omega,hu⟩)
  ·exact .inr (.inr ⟨by omega,hu⟩)
theorem kE{ε:Env}{w:World}{S:ck}:∀l:List (Int×Int×Int),(∀u∈ju l,u.oneCell'=true)/\bN ε w S (flat EN l) (ju l)
 |[]=>⟨fun u h=>(by cases h),trivial⟩
 |x::l=>by
  obtain⟨h1,h2⟩:=kE (ε:=ε) (w:=w) (S:=S) l;refine⟨fun u h=>?_,rfl,rfl,rfl,h2⟩;simp only[ju,List.mem_cons]at h;rcases h with rfl|rfl|rfl|h
  ·rfl
  ·rfl
  ·rfl
  ·exact h1 u h
theorem lD{α:Type}{p:Nat->α->Prop}:∀n:Nat,(∀i,i<n->∃x,p i x)->∃l:List α,l.length=n/\∀i x,l[i]?=some x->p i x
 |0,_=>⟨[],rfl,fun i x h=>by simp at h⟩
 |n+1,h=>by
  obtain⟨l,hl,hp⟩:=lD n (fun i hi=>h i (by omega));obtain⟨x,hx⟩:=h n (by omega);refine⟨l++[x],by simp[hl],fun i y hy=>?_⟩;by_cases hi:i<l.length
  ·rw[List.getElem?_append_left hi]at hy;exact hp i y hy
  ·rw[List.getElem?_append_right (by omega)]at hy;have:i-l.length=0:=by
    cases hk:i-l.length with
    |zero=>rfl
    |succ k=>rw[hk]at hy;simp at hy
   rw[this]at hy;simp at hy;subst hy;have:i=n:=by omega
   rw[this];exact hx
theorem Cv{w:World}{base:Nat}{a:Addr}{cs:List Value}(h:w.cells? base a 3=some cs):∃v0 v1 v2,cs=[v0,v1,v2]/\w.cell? (a.add 0)=some v0/\w.cell? (a.add 1)=some v1/\w.cell? (a.add 2)=some v2:=by
 unfold World.cells? at h
 split at h
 ·have e:List.range 3=[0,1,2]:=rfl;rw[e]at h;simp only[List.mapM_cons,List.mapM_nil,Option.bind_eq_bind,Option.pure_def]at h;obtain⟨v0,h0,h⟩:=bind_some h;obtain⟨t1,g1,g⟩:=bind_some h;obtain⟨v1,h1,k⟩:=bind_some g1;obtain⟨t2,g2,k⟩:=bind_some k;obtain⟨v2,h2,k2⟩:=bind_some g2;clear g1 g2 h;simp at k2 k g;exact⟨v0,v1,v2,by rw[←g,←k,←k2],h0,h1,h2⟩
 ·cases h
theorem Bt{H:Type}{enc:TypeId×Value->H}{w:World}{b0 base:Nat}{spare:Nat->Bool}{held:Bool}{r:Reach}{v:Value}{d:DataW H}{p:List MemPlace}(hv:Value.okWide PP w r b0 67 v)(h:DataW.Trod enc PP w base spare held 67 v d p):
  ∃xs:List (Int×Int×Int),(∀x∈xs,qj x)/\(an EN xs).p ε0 w (fun _=>True) v:=by
 obtain⟨A,len,cap,rfl⟩:=okWide_slice Go.Proofs.Tryz.underlying67 hv;obtain⟨fuel,hf⟩:=h;have hf:DataW.trod enc PP w base spare held fuel 67 [.slice A len cap]=some (d,p):=by simpa [Value.cells]using hf
 rcases DataW.trod_slice Go.Proofs.Tryz.underlying67 hf with⟨hcs,_⟩|⟨a,len',cap',elems,rest,n,_,hcs,_,hb,hlc,hm,hel,hi,_,_⟩
 ·simp at hcs;obtain⟨rfl,rfl,rfl⟩:=hcs;exact⟨[],⟨fun x hx=>(by cases hx),⟨none,0,rfl,Nat.le_refl _,rfl,.inl rfl⟩⟩⟩
 ·simp at hcs;obtain⟨rfl,rfl,rfl⟩:=hcs;rw[tS]at hi;obtain⟨xs,hl,hx⟩:=lD (p:=fun i (x:Int×Int×Int)=>qj x/\w.cell? ((a.add (i*3)).add 0)=some (.int .i64 x.1)/\w.cell? ((a.add (i*3)).add 1)=some (.int .i64 x.2.1)/\w.cell? ((a.add (i*3)).add 2)=some (.int .u8 x.2.2)) len (fun i hil=>by
   have h1:=hi i hil;rw[List.getElem?_eq_getElem (by omega)]at h1;obtain⟨cs,hc,ht⟩:=bind_some h1;obtain⟨v0,v1,v2,rfl,c0,c1,c2⟩:=Cv hc;obtain⟨x,y,z,e,o1,o2,o3,o4⟩:=tM ht;simp at e;obtain⟨rfl,rfl,rfl⟩:=e;exact⟨(x,y,z),⟨o1,o2,o3,o4⟩,c0,c1,c2⟩)
  refine⟨xs,fun x hxm=>?_,?_⟩
  ·obtain⟨i,hi⟩:=List.getElem?_of_mem hxm;exact(hx i x hi).1
  ·refine⟨some a,cap,by rw[hl],by rw[hl];exact hlc,bp EN xs,?_⟩;by_cases h0:len=0
   ·left;omega
   ·right
    have hlt:0<xs.length:=by omega
    have hc0:=(hx 0 xs[0] (List.getElem?_eq_getElem hlt)).2.1;have ea:(a.add (0*3)).add 0=a:=by simp[Addr.add]
    rw[ea]at hc0;obtain⟨b,o,sp⟩:=a;have hsp:sp=none:=by
     unfold World.cell? at hc0
     split at hc0
     ·cases sp with
      |none=>rfl
      |some s=>simp at hc0
     ·cases hc0
    subst hsp;obtain⟨cs,ty,fr,hblk⟩:∃cs ty fr,w.heap[b]?=some (.cells cs ty fr):=by
     unfold World.cell? at hc0
     split at hc0
     ·rename_i c t f e;exact⟨c,t,f,e⟩
     ·cases hc0
    refine⟨b,o,rfl,trivial,cs,ty,fr,ju xs,hblk,fun j u hj=>?_,(kE (ε:=ε0) (w:=w) (S:=fun _=>True) xs).1,(kE xs).2⟩;have hcell:∀k u,w.cell? ⟨b,o+k,none⟩=some u->cs[o+k]?=some u:=by
     intro k u hk;simpa [World.cell?,hblk]using hk
    obtain⟨i,x,hix,hc⟩:=o0 hj;obtain⟨_,k0,k1,k2⟩:=hx i x hix;simp only[gS]at k0 k1 k2;rcases hc with⟨rfl,rfl⟩|⟨rfl,rfl⟩|⟨rfl,rfl⟩
    ·exact hcell _ _ (by rw[←Nat.add_assoc];exact k0)
    ·exact hcell _ _ (by rw[←Nat.add_assoc];exact k1)
    ·exact hcell _ _ (by rw[←Nat.add_assoc];exact k2)
end Go.Am
namespace Go.Am
set_option maxRecDepth 100000
open Go.RowKit Go.ChangeShapes Go.WideShapes Go.ChangeAt Go.Deep
theorem BG:PP.cellsOf 67=1:=by kernel_rfl
theorem GM{w:World}{base:Nat}{a:Addr}{cs:List Value}(h:w.cells? base a 1=some cs):∃v0,cs=[v0]/\w.cell? (a.add 0)=some v0:=by
 unfold World.cells? at h
 split at h
 ·have e:List.range 1=[0]:=rfl;rw[e]at h;simp only[List.mapM_cons,List.mapM_nil,Option.bind_eq_bind,Option.pure_def]at h;obtain⟨v0,h0,h⟩:=bind_some h;simp at h;exact⟨v0,h.symm,h0⟩
 ·cases h
theorem zK{H:Type}{enc:TypeId×Value->H}{w:World}{base:Nat}{spare:Nat->Bool}{held:Bool}{v:Value}{d:DataW H}{p:List MemPlace}{fuel:Nat}(hf:DataW.trod enc PP w base spare held fuel 67 [v]=some (d,p)):
  ∃xs:List (Int×Int×Int),(∀x∈xs,qj x)/\(an EN xs).p ε0 w (fun _=>True) v:=by
 rcases DataW.trod_slice Go.Proofs.Tryz.underlying67 hf with⟨hcs,_⟩|⟨a,len,cap,elems,rest,n,_,hcs,_,hb,hlc,hm,hel,hi,_,_⟩
 ·simp at hcs;subst hcs;exact⟨[],⟨fun x hx=>(by cases hx),⟨none,0,rfl,Nat.le_refl _,rfl,.inl rfl⟩⟩⟩
 ·simp at hcs;subst hcs;rw[tS]at hi;obtain⟨xs,hl,hx⟩:=lD (p:=fun i (x:Int×Int×Int)=>qj x/\w.cell? ((a.add (i*3)).add 0)=some (.int .i64 x.1)/\w.cell? ((a.add (i*3)).add 1)=some (.int .i64 x.2.1)/\w.cell? ((a.add (i*3)).add 2)=some (.int .u8 x.2.2)) len (fun i hil=>by
   have h1:=hi i hil;rw[List.getElem?_eq_getElem (by omega)]at h1;obtain⟨cs,hc,ht⟩:=bind_some h1;obtain⟨v0,v1,v2,rfl,c0,c1,c2⟩:=Cv hc;obtain⟨x,y,z,e,o1,o2,o3,o4⟩:=tM ht;simp at e;obtain⟨rfl,rfl,rfl⟩:=e;exact⟨(x,y,z),⟨o1,o2,o3,o4⟩,c0,c1,c2⟩)
  refine⟨xs,fun x hxm=>?_,?_⟩
  ·obtain⟨i,hi⟩:=List.getElem?_of_mem hxm;exact(hx i x hi).1
  ·refine⟨some a,cap,by rw[hl],by rw[hl];exact hlc,bp EN xs,?_⟩;by_cases h0:len=0
   ·left;omega
   ·right
    have hlt:0<xs.length:=by omega
    have hc0:=(hx 0 xs[0] (List.getElem?_eq_getElem hlt)).2.1;have ea:(a.add (0*3)).add 0=a:=by simp[Addr.add]
    rw[ea]at hc0;obtain⟨b,o,sp⟩:=a;have hsp:sp=none:=by
     unfold World.cell? at hc0
     split at hc0
     ·cases sp with
      |none=>rfl
      |some s=>simp at hc0
     ·cases hc0
    subst hsp;obtain⟨cs,ty,fr,hblk⟩:∃cs ty fr,w.heap[b]?=some (.cells cs ty fr):=by
     unfold World.cell? at hc0
     split at hc0
     ·rename_i c t f e;exact⟨c,t,f,e⟩
     ·cases hc0
    refine⟨b,o,rfl,trivial,cs,ty,fr,ju xs,hblk,fun j u hj=>?_,(kE (ε:=ε0) (w:=w) (S:=fun _=>True) xs).1,(kE xs).2⟩;have hcell:∀k u,w.cell? ⟨b,o+k,none⟩=some u->cs[o+k]?=some u:=by
     intro k u hk;simpa [World.cell?,hblk]using hk
    obtain⟨i,x,hix,hc⟩:=o0 hj;obtain⟨_,k0,k1,k2⟩:=hx i x hix;simp only[gS]at k0 k1 k2;rcases hc with⟨rfl,rfl⟩|⟨rfl,rfl⟩|⟨rfl,rfl⟩
    ·exact hcell _ _ (by rw[←Nat.add_assoc];exact k0)
    ·exact hcell _ _ (by rw[←Nat.add_assoc];exact k1)
    ·exact hcell _ _ (by rw[←Nat.add_assoc];exact k2)
theorem rL{α:Type}{e:ak α}{ε:Env}{w:World}{S:ck}:∀{X:List (List α)} {us:List Value},us.length=X.length->(∀(k:Nat) (xs:List α) (v:Value),X[k]?=some xs->us[k]?=some v->(an e xs).p ε w S v)->bN ε w S (flat (ak.slice e) X) us
 |[],[],_,_=>trivial
 |x::X,u::us,hl,h=>⟨h 0 x u rfl rfl,rL (by simpa using hl) (fun k xs v hx hv=>h (k+1) xs v (by simpa using hx) (by simpa using hv))⟩
 |[],_::_,hl,_=>by simp at hl
 |_::_,[],hl,_=>by simp at hl
theorem vT{H:Type}{enc:TypeId×Value->H}{w:World}{b0 base:Nat}{spare:Nat->Bool}{held:Bool}{r:Reach}{v:Value}{d:DataW H}{p:List MemPlace}(hv:Value.okWide PP w r b0 129 v)(h:DataW.Trod enc PP w base spare held 129 v d p):
  ∃xs:List (List (Int×Int×Int)),vX xs/\(an (ak.slice EN) xs).p ε0 w (fun _=>True) v:=by
 obtain⟨A,len,cap,rfl⟩:=okWide_slice Go.Proofs.Tryz.underlying129 hv;obtain⟨fuel,hf⟩:=h;have hf:DataW.trod enc PP w base spare held fuel 129 [.slice A len cap]=some (d,p):=by simpa [Value.cells]using hf
 rcases DataW.trod_slice Go.Proofs.Tryz.underlying129 hf with⟨hcs,_⟩|⟨a,len',cap',elems,rest,n,_,hcs,_,hb,hlc,hm,hel,hi,_,_⟩
 ·simp at hcs;obtain⟨rfl,rfl,rfl⟩:=hcs;exact⟨[],⟨fun x hx=>(by cases hx),⟨none,0,rfl,Nat.le_refl _,rfl,.inl rfl⟩⟩⟩
 ·simp at hcs;obtain⟨rfl,rfl,rfl⟩:=hcs;rw[BG]at hi;obtain⟨ys,hl,hx⟩:=lD (p:=fun i (x:List (Int×Int×Int)×Value)=>(∀e∈x.1,qj e)/\w.cell? ((a.add (i*1)).add 0)=some x.2/\(an EN x.1).p ε0 w (fun _=>True) x.2) len (fun i hil=>by
   have h1:=hi i hil;rw[List.getElem?_eq_getElem (by omega)]at h1;obtain⟨cs,hc,ht⟩:=bind_some h1;obtain⟨v0,rfl,c0⟩:=GM hc;obtain⟨d',p',ht'⟩:∃d' p',DataW.trod enc PP w base spare held _ 67 [v0]=some (d',p'):=⟨_,_,ht⟩;obtain⟨xs,o1,o2⟩:=zK ht';exact⟨(xs,v0),o1,c0,o2⟩)
  refine⟨ys.map (·.1),fun x hxm=>?_,?_⟩
  ·obtain⟨y,hy,rfl⟩:=List.mem_map.1 hxm;obtain⟨i,hi⟩:=List.getElem?_of_mem hy;exact(hx i y hi).1
  ·refine⟨some a,cap,by rw[List.length_map,hl],by rw[List.length_map,hl];exact hlc,bp (ak.slice EN) _,?_⟩;by_cases h0:len=0
   ·left;rw[List.length_map];omega
   ·right
    have hlt:0<ys.length:=by omega
    have hc0:=(hx 0 ys[0] (List.getElem?_eq_getElem hlt)).2.1;have ea:(a.add (0*1)).add 0=a:=by simp[Addr.add]
    rw[ea]at hc0;obtain⟨b,o,sp⟩:=a;have hsp:sp=none:=by
     unfold World.cell? at hc0
     split at hc0
     ·cases sp with
      |none=>rfl
      |some s=>simp at hc0
     ·cases hc0
    subst hsp;obtain⟨cs,ty,fr,hblk⟩:∃cs ty fr,w.heap[b]?=some (.cells cs ty fr):=by
     unfold World.cell? at hc0
     split at hc0
     ·rename_i c t f e;exact⟨c,t,f,e⟩
     ·cases hc0
    have hcell:∀k u,w.cell? ⟨b,o+k,none⟩=some u->cs[o+k]?=some u:=by
     intro k u hk;simpa [World.cell?,hblk]using hk
    have af:∀(j:Nat) (u:Value),(ys.map (·.2))[j]?=some u->∃y:List (Int×Int×Int)×Value,ys[j]?=some y/\y.2=u:=fun j u hj=>by
     rw[List.getElem?_map]at hj;cases hq:ys[j]?with
     |none=>rw[hq]at hj;cases hj
     |some y=>rw[hq]at hj;exact⟨y,rfl,by simpa using hj⟩
    refine⟨b,o,rfl,trivial,cs,ty,fr,ys.map (·.2),hblk,fun j u hj=>?_,fun u hu=>?_,rL (by simp) (fun k xs v hxs hv=>?_)⟩
    ·obtain⟨y,hy,rfl⟩:=af j u hj;have k0:=(hx j y hy).2.1;simp only[gS]at k0;exact hcell _ _ (by simpa using k0)
    ·obtain⟨j,hj⟩:=List.getElem?_of_mem hu;obtain⟨y,hy,rfl⟩:=af j u hj;obtain⟨A',c',e',_⟩:=(hx j y hy).2.2;rw[e'];rfl
    ·obtain⟨y,hy,rfl⟩:=af k v hv;have:y.1=xs:=by rw[List.getElem?_map,hy]at hxs;simpa using hxs
     subst this;exact(hx k y hy).2.2
end Go.Am
